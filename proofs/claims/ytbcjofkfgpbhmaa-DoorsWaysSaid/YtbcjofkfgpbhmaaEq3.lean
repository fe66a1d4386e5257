/-
  Doors: reaches, the whole.
-/
import Derived.Test.YtbcjofkfgpbhmaaEq2
import Derived.Test.YtbcjofkfgpbhmaaEq1
set_option linter.unusedSimpArgs false
set_option linter.unusedVariables false
namespace Go.Proofs.Ytbcjofkfgpbhmaa
open Go.Ab
theorem foldB_anyC {α σ:Type}(p:α→Bool)(f:σ→α→σ): ∀(l:List α) (a:σ),∃a',foldB (fun(q:σ×Bool) x=>if p x=true then((f q.1 x,true),false)else((f q.1 x,false),true)) l (a,false)=((a',l.any p),!l.any p)
 |[],a=>⟨a,rfl⟩
 |x::l,a=>by
   simp only[foldB]
   cases hp:p x
   ·obtain⟨a',e⟩:=foldB_anyC p f l (f a x)
    exact⟨a',by simp only[Bool.false_eq_true,if_false,if_true,List.any_cons,hp,Bool.false_or];exact e⟩
   ·exact⟨f a x,by simp[hp]⟩
theorem foldB_not {α σ:Type} {f:σ→α→σ×Bool} {p:α→Bool}: ∀ {l:List α} {a:σ},(∀a x,x∈l→(f a x).2= !p x)→(foldB f l a).2= !l.any p
 |[],a,_=>rfl
 |x::l,a,h=>by
   have hx:=h a x (by simp)
   simp only[foldB,List.any_cons]
   cases hp:p x
   ·rw[hp]at hx
    simp only[Bool.not_false]at hx
    rw[if_pos hx,foldB_not fun a y hy=>h a y (by simp[hy])];rfl
   ·rw[hp]at hx
    simp only[Bool.not_true]at hx
    rw[if_neg (by rw[hx];simp),hx];rfl
theorem reach_fold(t:DTrap)(k o2:Nat)(f)(n:List Int)(K:MemC t):(foldD t o2 n (reachY t k o2 f) (K,false)).1.2=((movesO t o2 n).any fun m=>cO t k o2 (m ++n.drop t.groups.length))∧(foldD t o2 n (reachY t k o2 f) (K,false)).2= !((movesO t o2 n).any fun m=>cO t k o2 (m ++n.drop t.groups.length)):=by
 obtain⟨a',e⟩:=foldB_anyC (fun m=>cO t k o2 (m ++n.drop t.groups.length)) (fun(K:MemC t) m=>f o2 (m ++n.drop t.groups.length) K) (movesO t o2 n) K
 have:foldD t o2 n (reachY t k o2 f) (K,false)=_:=e
 rw[this]
 exact⟨rfl,rfl⟩
def stepC(t:DTrap)(k:Nat)(f:Nat→List Int→MemC t→MemC t)(o:Nat)(n:List Int)(K:MemC t)(c:Nat):MemC t×Bool:=
 ((foldD t (xorN o c) n (reachY t k (xorN o c) f) (K,false)).1.1,(foldD t (xorN o c) n (reachY t k (xorN o c) f) (K,false)).2)
def canK(t:DTrap):Nat→Nat→List Int→MemC t→MemC t
 |0,_,_,K=>K
 |k+1,o,n,K=>if 0<(kvGet K.1 (keyD (k+1) o n)).getD 0 then K else
   if (foldB (stepC t k (canK t k) o n) (cN t) K).2=true then(foldB (stepC t k (canK t k) o n) (cN t) K).1.put (keyD (k+1) o n)else(foldB (stepC t k (canK t k) o n) (cN t) K).1
theorem canK_keep(t:DTrap)(k:Nat): ∀(o:Nat) (n:List Int) (K:MemC t) (key:List Int),(k:Int)<key.headD 0→kvGet (canK t k o n K).1 key=kvGet K.1 key:=by
 induction k with
 |zero=>intro o n K key _;rfl
 |succ k ih=>
   intro o n K key hk
   have hs: ∀(a:MemC t) c,kvGet (stepC t k (canK t k) o n a c).1.1 key=kvGet a.1 key:=fun a c=>by
    refine foldB_inv (I:=fun q:MemC t×Bool=>kvGet q.1.1 key=kvGet a.1 key) (fun q x _ hq=> ?_) rfl
    simp only[reachY]
    split<;>(simp only;rw[ih _ _ _ _ (by omega),hq])
   have hf:kvGet (foldB (stepC t k (canK t k) o n) (cN t) K).1.1 key=kvGet K.1 key:=foldB_inv (I:=fun a:MemC t=>kvGet a.1 key=kvGet K.1 key) (fun a x _ ha=>by rw[hs,ha]) rfl
   simp only[canK]
   split
   ·rfl
   ·split
    ·simp only[Mem.put]
     rw[kvGet_put,if_neg (fun e=>by rw[e]at hk;simp[keyD]at hk),hf]
    ·exact hf
theorem kvIdx_none: ∀ {kvs:List (List Int×Int)} {k:List Int},kvGet kvs k=none→kvIdx kvs k=kvs.length
 |[],_,_=>rfl
 |x::r,k,h=>by
   simp only[kvGet]at h
   split at h
   ·cases h
   ·rename_i hk
    simp only[kvIdx,if_neg hk,kvIdx_none h,List.length_cons]
theorem kvPut_app: ∀ {kvs:List (List Int×Int)} {k:List Int} (v:Int),kvGet kvs k=none→kvPut kvs k v=kvs ++[(k,v)]
 |[],_,_,_=>rfl
 |x::r,k,v,h=>by
   simp only[kvGet]at h
   split at h
   ·cases h
   ·rename_i hk
    simp only[kvPut,if_neg hk,kvPut_app v h,List.cons_append]
theorem kvSet_put {kvs:List (List Int×Int)} {k:List Int}(h:kvGet kvs k=none)(v:Int):kvSet (kvPut kvs k 0) (kvIdx kvs k) v=kvPut kvs k v:=by
 rw[kvPut_app _ h,kvPut_app _ h,kvIdx_none h]
 unfold kvSet
 apply List.ext_getElem?
 intro i
 rw[List.getElem?_modify]
 by_cases hi:kvs.length=i
 ·subst hi;simp
 ·simp only[if_neg hi]
  by_cases hl:i<kvs.length
  ·simp[List.getElem?_append,hl]
  ·rw[List.getElem?_eq_none (by simp;omega),List.getElem?_eq_none (by simp;omega)];rfl
def reachOps:List AOper:=[⟨some 41, .load none (.t 5),none,[],[]⟩,⟨some 42, .load (some 5) (.t 4),none,[],[]⟩,⟨some 43, .mget (some 5) false (.t 41) (.t 42),none,[0,1],[999999]⟩,⟨some 44, .bin .add (.t 43) (.c (i64 1)),none,[2,0,1],[999999]⟩,⟨some 45, .ment (some 5) (.t 41) (.t 42),none,[0,1],[]⟩,⟨some 46, .ext (.t 45) 1,none,[4,0,1],[]⟩,⟨none, .mest (.t 41) (.t 46) (.t 44),none,[3,5,2,4,0,1],[]⟩]
theorem reachOps_pre: ∀(i:Nat) o,reachOps[i]? =some o→ ∀p∈o.pre,p<i:=by
 intro i o h
 match i with
 |0|1|2|3|4|5|6=>simp[reachOps]at h;subst h;simp
 |i+7=>simp[reachOps]at h
structure ReachI(mp:V)(cs:List V)(ix:Int)(p4 p5 p6:V)(done:List Nat)(e:Env):Prop where
 g4:e.get 4=p4
 g5:e.get 5=p5
 g6:e.get 6=p6
 h0:0∈done→e.get 41=mp
 h1:1∈done→e.get 42= .agg cs
 h2:2∈done→e.get 43=i64 0
 h3:3∈done→e.get 44=i64 1
 h4:4∈done→e.get 45= .tup [i64 0,i64 ix]
 h5:5∈done→e.get 46=i64 ix
 c6:6∈done→4∈done
 c26:6∈done→2∈done
set_option maxHeartbeats 4000000 in
theorem reach_region {t:DTrap} {C:List Int} {m:V} {dg lg dm lm L:Nat} {S:List (List Int×Int)→Stk}(G:GameD t C m dg lg dm lm L S)(F:Ab.Loc)(a0 a1 a2 a3 a4:Int)(hF:F.get 80=some (.cell [.mp (.ptr dm lm 0)]))(hF2:F.get 64=some (.cell [i64 a0,i64 a1,i64 a2,i64 a3,i64 a4]))
 (kvs:List (List Int×Int)) (hn0:kvGet kvs [a0,a1,a2,a3,a4]=none) (e0:Env) (x4:e0.get 4= .ptr L 64 0) (x5:e0.get 5= .ptr L 80 0) (x6:e0.get 6= .ptr L 96 0):
 runAny T (Run T) reachOps [6] reachOps [] e0 (F::S kvs)=some ([(6, .ptr L 96 0)],F::S (kvPut kvs [a0,a1,a2,a3,a4] 1)):=by
 have hm: ¬dm=L:=by have:=G.ltm;omega
 have hL:=G.len
 have hidx:=kvIdx_none hn0
 have hset:=kvSet_put hn0 1
 have hlen:(kvPut kvs [a0,a1,a2,a3,a4] 0).length=kvs.length+1:=by rw[kvPut_app _ hn0];simp
 have hnp:kvGet (kvPut kvs [a0,a1,a2,a3,a4] 0) [a0,a1,a2,a3,a4]=some 0:=by rw[kvGet_put,if_pos rfl]
 have f80: ∀K,sget (F::S K) L 80=some (.cell [.mp (.ptr dm lm 0)]):=fun K=>by rw[←hL K,sget_top,hF]
 have f64: ∀K,sget (F::S K) L 64=some (.cell [i64 a0,i64 a1,i64 a2,i64 a3,i64 a4]):=fun K=>by rw[←hL K,sget_top,hF2]
 have fm: ∀K,sget (F::S K) dm lm=some (.mp (some 5) K):=fun K=>by rw[sget_cons,if_neg (by rw[hL];exact hm),G.mem]
 have pm: ∀K K',sput (F::S K) dm lm (.mp (some 5) K')=F::S K':=fun K K'=>by rw[sput_cons,if_neg (by rw[hL];exact hm),G.put]
 rw[hidx]at hset
 generalize hP0:kvPut kvs [a0,a1,a2,a3,a4] 0=P0 at*
 generalize hP1:kvPut kvs [a0,a1,a2,a3,a4] 1=P1 at*
 refine runAny_start (fun done e s=>ReachI (.mp (.ptr dm lm 0)) [i64 a0,i64 a1,i64 a2,i64 a3,i64 a4] (kvs.length:Nat) (.ptr L 64 0) (.ptr L 80 0) (.ptr L 96 0) done e∧s=F::S (if 6∈done then P1 else if 4∈done then P0 else kvs)) _ ?_ ?_ ?_
 ·exact⟨⟨x4,x5,x6,by simp,by simp,by simp,by simp,by simp,by simp,by simp,by simp⟩,by simp⟩
 ·intro done e s ⟨h,hs⟩ hr
  have hall:=ready_all hr reachOps_pre
  simp[Env.only,h.g6,hs,hall 6 (by simp[reachOps])]
 ·intro done e s i o ⟨h,hs⟩ ho hn hp
  match i with
  |0=>
    simp[reachOps]at ho;subst ho
    rw[hs]at*
    refine⟨(41, .mp (.ptr dm lm 0))::e,F::S (if 6∈done then P1 else if 4∈done then P0 else kvs),by simp[h.g5,f80],⟨⟨by simp[h.g4],by simp[h.g5],by simp[h.g6],fun _=>by simp,fun hm=>by have:=h.h1 (by simpa using hm);simpa using this,fun hm=>by have:=h.h2 (by simpa using hm);simpa using this,fun hm=>by have:=h.h3 (by simpa using hm);simpa using this,fun hm=>by have:=h.h4 (by simpa using hm);simpa using this,fun hm=>by have:=h.h5 (by simpa using hm);simpa using this,fun hm=>by have:=h.c6 (by simpa using hm);simp[this],fun hm=>by have:=h.c26 (by simpa using hm);simp[this]⟩,by simp⟩⟩
  |1=>
    simp[reachOps]at ho;subst ho
    rw[hs]at*
    refine⟨(42, .agg [i64 a0,i64 a1,i64 a2,i64 a3,i64 a4])::e,F::S (if 6∈done then P1 else if 4∈done then P0 else kvs),by simp[h.g4,f64],⟨⟨by simp[h.g4],by simp[h.g5],by simp[h.g6],fun hm=>by have:=h.h0 (by simpa using hm);simpa using this,fun _=>by simp,fun hm=>by have:=h.h2 (by simpa using hm);simpa using this,fun hm=>by have:=h.h3 (by simpa using hm);simpa using this,fun hm=>by have:=h.h4 (by simpa using hm);simpa using this,fun hm=>by have:=h.h5 (by simpa using hm);simpa using this,fun hm=>by have:=h.c6 (by simpa using hm);simp[this],fun hm=>by have:=h.c26 (by simpa using hm);simp[this]⟩,by simp⟩⟩
  |2=>
    simp[reachOps]at ho;subst ho
    have m0:=hp 0 (by simp)
    have m1:=hp 1 (by simp)
    have hg0:(kvGet (if 6∈done then P1 else if 4∈done then P0 else kvs) [a0,a1,a2,a3,a4]).getD 0=0:=by
     have n6:6∉done:=fun h6=>hn (h.c26 h6)
     rw[if_neg n6]
     split
     ·rw[hnp];rfl
     ·rw[hn0];rfl
    rw[hs]at*
    refine⟨(43,i64 0)::e,F::S (if 6∈done then P1 else if 4∈done then P0 else kvs),by simp[h.h0 m0,h.h1 m1,fm,hg0],⟨⟨by simp[h.g4],by simp[h.g5],by simp[h.g6],fun hm=>by have:=h.h0 (by simpa using hm);simpa using this,fun hm=>by have:=h.h1 (by simpa using hm);simpa using this,fun _=>by simp,fun hm=>by have:=h.h3 (by simpa using hm);simpa using this,fun hm=>by have:=h.h4 (by simpa using hm);simpa using this,fun hm=>by have:=h.h5 (by simpa using hm);simpa using this,fun hm=>by have:=h.c6 (by simpa using hm);simp[this],fun hm=>by have:=h.c26 (by simpa using hm);simp[this]⟩,by simp⟩⟩
  |3=>
    simp[reachOps]at ho;subst ho
    have m0:=hp 0 (by simp)
    have m1:=hp 1 (by simp)
    have m2:=hp 2 (by simp)
    refine⟨(44,i64 1)::e,s,by simp[h.h2 m2,show IntKind.i64.wrap 1=1 by decide],⟨⟨by simp[h.g4],by simp[h.g5],by simp[h.g6],fun hm=>by have:=h.h0 (by simpa using hm);simpa using this,fun hm=>by have:=h.h1 (by simpa using hm);simpa using this,fun hm=>by have:=h.h2 (by simpa using hm);simpa using this,fun _=>by simp,fun hm=>by have:=h.h4 (by simpa using hm);simpa using this,fun hm=>by have:=h.h5 (by simpa using hm);simpa using this,fun hm=>by have:=h.c6 (by simpa using hm);simp[this],fun hm=>by have:=h.c26 (by simpa using hm);simp[this]⟩,by simpa using hs⟩⟩
  |4=>
    simp[reachOps]at ho;subst ho
    have m0:=hp 0 (by simp)
    have m1:=hp 1 (by simp)
    have n6:6∉done:=fun h6=>hn (h.c6 h6)
    rw[if_neg n6,if_neg hn]at hs
    subst hs
    refine⟨(45, .tup [i64 0,i64 (kvs.length:Nat)])::e,F::S P0,by simp[h.h0 m0,h.h1 m1,fm,pm,hn0,hidx,hP0],⟨⟨by simp[h.g4],by simp[h.g5],by simp[h.g6],fun hm=>by have:=h.h0 (by simpa using hm);simpa using this,fun hm=>by have:=h.h1 (by simpa using hm);simpa using this,fun hm=>by have:=h.h2 (by simpa using hm);simpa using this,fun hm=>by have:=h.h3 (by simpa using hm);simpa using this,fun _=>by simp,fun hm=>by have:=h.h5 (by simpa using hm);simpa using this,fun hm=>by have:=h.c6 (by simpa using hm);simp[this],fun hm=>by have:=h.c26 (by simpa using hm);simp[this]⟩,by simp[n6]⟩⟩
  |5=>
    simp[reachOps]at ho;subst ho
    have m0:=hp 0 (by simp)
    have m1:=hp 1 (by simp)
    have m4:=hp 4 (by simp)
    refine⟨(46,i64 (kvs.length:Nat))::e,s,by simp[h.h4 m4],⟨⟨by simp[h.g4],by simp[h.g5],by simp[h.g6],fun hm=>by have:=h.h0 (by simpa using hm);simpa using this,fun hm=>by have:=h.h1 (by simpa using hm);simpa using this,fun hm=>by have:=h.h2 (by simpa using hm);simpa using this,fun hm=>by have:=h.h3 (by simpa using hm);simpa using this,fun hm=>by have:=h.h4 (by simpa using hm);simpa using this,fun _=>by simp,fun hm=>by have:=h.c6 (by simpa using hm);simp[this],fun hm=>by have:=h.c26 (by simpa using hm);simp[this]⟩,by simpa using hs⟩⟩
  |6=>
    simp[reachOps]at ho;subst ho
    have m0:=hp 0 (by simp)
    have m1:=hp 1 (by simp)
    have m2:=hp 2 (by simp)
    have m3:=hp 3 (by simp)
    have m4:=hp 4 (by simp)
    have m5:=hp 5 (by simp)
    rw[if_neg hn,if_pos m4]at hs
    subst hs
    refine⟨e,F::S P1,by simp[h.h0 m0,h.h5 m5,h.h3 m3,fm,pm,hlen,hset,show(kvs.length:Int)<(kvs.length:Int)+1 by omega],⟨⟨by simp[h.g4],by simp[h.g5],by simp[h.g6],fun hm=>by have:=h.h0 (by simpa using hm);simpa using this,fun hm=>by have:=h.h1 (by simpa using hm);simpa using this,fun hm=>by have:=h.h2 (by simpa using hm);simpa using this,fun hm=>by have:=h.h3 (by simpa using hm);simpa using this,fun hm=>by have:=h.h4 (by simpa using hm);simpa using this,fun hm=>by have:=h.h5 (by simpa using hm);simpa using this,fun hm=>by simp[m4],fun hm=>by simp[m2]⟩,by simp⟩⟩
  |i+7=>simp[reachOps]at ho
end Go.Proofs.Ytbcjofkfgpbhmaa

/-
  Doors: reaches, the end.
-/
namespace Go.Proofs.Ytbcjofkfgpbhmaa
open Go.Ab
theorem caught_take(n:Nat): ∀(f p:List Int) (k:Nat),f.length≤k→caughtS n f (p.take k)=caughtS n f p:=by
 intro f
 induction f with
 |nil=>intro p k _;simp[caughtS]
 |cons x f ih=>
   intro p k hk
   cases p with
   |nil=>simp
   |cons y p=>
     cases k with
     |zero=>simp at hk
     |succ k=>simp only[List.take_succ_cons,caughtS,ih p k (by simpa using hk)]
abbrev RetG(L:Nat):= {p:Env×Ab.Loc//p.1.get 6= .ptr L 96 0∧p.2.get 96=some (.cell [.bool true])}
instance (L:Nat):Inhabited (RetG L):=⟨⟨([(6, .ptr L 96 0)],[(96, .cell [.bool true])]),rfl,rfl⟩⟩
set_option maxHeartbeats 8000000 in
theorem e_reaches {t:DTrap}(h:DoorOk t)(k:Nat):k≤4→CanD t (chB t) k (canK t k):=by
 induction k with
 |zero=>
   intro _ m dg lg dm lm L S G o n K lab ho hn
   obtain⟨x0,x1,x2,rfl⟩: ∃x0 x1 x2,n=[x0,x1,x2]:=by
    match n,hn.1 with
    |[x0,x1,x2],_=>exact⟨x0,x1,x2,rfl⟩
   have hL:=G.len K.1
   have hd:=G.ltg
   have hc:=fun lab=>e_caught t h.ol h.ch (fun g hg=>(h.groups g hg).2) (chB t) m x0 x1 x2 dg lg ([(48, .cell [.ptr dg lg 0]),(64, .cell [i64 0,i64 (o:Nat),i64 x0,i64 x1,i64 x2]),(80, .cell [.mp (.ptr dm lm 0)]),(96, .cell [.bool false])]::S K.1) (by simp only[List.length_cons];omega) (by rw[sget_cons,if_neg (by omega),G.game]) lab
   have e:cO t 0 o [x0,x1,x2]=decide (0<caughtS t.chambers.toNat (fishL t) [x0,x1,x2]):=by
    unfold cO
    simp only[canG]
    rw[caught_take _ _ _ _ (by simp[fishL])]
   rw[e]
   simp only[canK]
   generalize caughtS t.chambers.toNat (fishL t) [x0,x1,x2]=w at*
   generalize S K.1=X at*
   subst hL
   simp only[sceneL,List.map_cons,List.map_nil,Int.natCast_zero]
   change den T _ [_, .agg [i64 0,_,_,_,_],_] _ _=_
   rw[den_fn t73 _ _ _ rfl]
   simp only[b73]
   simp (maxSteps:=1000000) (disch:=first|omega|assumption|decide +kernel|(simp;done)|(simp;omega)|fail) [hc]
 |succ k ih0=>
   intro hk m dg lg dm lm L S G o n K lab ho hn
   have ih:= @ih0 (by omega)
   obtain⟨x0,x1,x2,rfl⟩: ∃x0 x1 x2,n=[x0,x1,x2]:=by
    match n,hn.1 with
    |[x0,x1,x2],_=>exact⟨x0,x1,x2,rfl⟩
   have hL:=G.len
   have hd:=G.ltg
   have hd2:=G.ltm
   have e1: ¬dg=L:=by omega
   have e2: ¬dm=L:=by omega
   have hga:=G.game
   have hme:=G.mem
   have hpu:=G.put
   have hw:=cKey_key t (k+1) o (n:=[x0,x1,x2]) rfl
   have hT:(((k+1:Nat):Int)=0)=False:=by simp;omega
   have hkk:((k+1:Nat):Int)-1=(k:Nat):=by omega
   have hsc:=cO_succ h k o hn
   have hcl:(chB t).length=(cN t).length:=by simp[chB,natI]
   have hlen:(cN t).length≤32:=by rw[←hcl];exact(chB_len h).2.2
   have key:=loop_list_e (T:=Go.Proofs.Ytbcjofkfgpbhmaa.T) (γ:=RetG L) (live:=[3,4,5,6,25,26,27]) (keep:=[48,64,80,96,256]) (b:=d73l0) (cN t) (fun _ (_:MemC t)=>True)
    (fun j _=>[(3, .ptr L 48 0),(4, .ptr L 64 0),(5, .ptr L 80 0),(6, .ptr L 96 0),(25, .sl .no 1 (es cInt (chB t))),(26,i64 (chB t).length),(27,i64 (j:Nat))])
    (fun _ K=>[(48, .cell [.ptr dg lg 0]),(64, .cell [i64 ((k+1:Nat):Int),i64 (o:Nat),i64 x0,i64 x1,i64 x2]),(80, .cell [.mp (.ptr dm lm 0)]),(96, .cell [.bool false])]::S K.1)
    (stepC t k (canK t k) o [x0,x1,x2])
    (fun g K=>(.ret,g.1.1,g.1.2::S K.1))
    (fun K=>(.exit 0,[(3, .ptr L 48 0),(4, .ptr L 64 0),(5, .ptr L 80 0),(6, .ptr L 96 0),(25, .sl .no 1 (es cInt (chB t))),(26,i64 (chB t).length),(27,i64 (cN t).length),(28, .bool false)],[(48, .cell [.ptr dg lg 0]),(64, .cell [i64 ((k+1:Nat):Int),i64 (o:Nat),i64 x0,i64 x1,i64 x2]),(80, .cell [.mp (.ptr dm lm 0)]),(96, .cell [.bool false])]::S K.1))
    (by simp) (by simp) ?_ ?_ K trivial [(3, .ptr L 48 0),(4, .ptr L 64 0),(5, .ptr L 80 0),(6, .ptr L 96 0),(25, .sl .no 1 (es cInt (chB t))),(26,i64 (chB t).length),(27,i64 0)] ([(48, .cell [.ptr dg lg 0]),(64, .cell [i64 ((k+1:Nat):Int),i64 (o:Nat),i64 x0,i64 x1,i64 x2]),(80, .cell [.mp (.ptr dm lm 0)]),(96, .cell [.bool false])]::S K.1) (by simp[hL,e1,e2]) (by simp[hL,e1,e2])
   ·obtain⟨g,hg⟩:=key
    change Run Go.Proofs.Ytbcjofkfgpbhmaa.T b73l0 _ _=_ at hg
    have hany:(foldB (stepC t k (canK t k) o [x0,x1,x2]) (cN t) K).2= !cO t (k+1) o [x0,x1,x2]:=by
     rw[hsc]
     exact foldB_not fun a c _=>(reach_fold t k (xorN o c) (canK t k) [x0,x1,x2] a).2
    have hkeep:kvGet (foldB (stepC t k (canK t k) o [x0,x1,x2]) (cN t) K).1.1 (keyD (k+1) o [x0,x1,x2])=kvGet K.1 (keyD (k+1) o [x0,x1,x2]):=by
     refine foldB_inv (I:=fun a:MemC t=>kvGet a.1 (keyD (k+1) o [x0,x1,x2])=kvGet K.1 (keyD (k+1) o [x0,x1,x2])) (fun a c _ ha=> ?_) rfl
     rw[←ha]
     refine foldB_inv (I:=fun q:MemC t×Bool=>kvGet q.1.1 (keyD (k+1) o [x0,x1,x2])=kvGet a.1 (keyD (k+1) o [x0,x1,x2])) (fun q x _ hq=> ?_) rfl
     simp only[reachY]
     split<;>(simp only;rw[canK_keep _ _ _ _ _ _ (by simp[keyD];omega),hq])
    have hr: ∀v,kvGet K.1 (keyD (k+1) o [x0,x1,x2])=some v→v=if cO t (k+1) o [x0,x1,x2]=true then 0 else 1:=fun v hv=>by rw[←hw];exact K.2 _ _ hv
    simp only[canK]
    rw[hany]at hg⊢
    obtain⟨⟨ge,gl⟩,hg1,hg2⟩:=g
    simp only at hg1 hg2 hg
    generalize foldB (stepC t k (canK t k) o [x0,x1,x2]) (cN t) K=Q at*
    obtain⟨K2,bb⟩:=Q
    simp only at hkeep hg hany⊢
    simp only[keyD]at hr hkeep⊢
    by_cases hpos:0<(kvGet K.1 [((k+1:Nat):Int),(o:Nat),x0,x1,x2]).getD 0
    ·have hco:cO t (k+1) o [x0,x1,x2]=false:=by
      cases hv:kvGet K.1 [((k+1:Nat):Int),(o:Nat),x0,x1,x2]with
      |none=>rw[hv]at hpos;simp at hpos
      |some v=>
        have:=hr v hv
        rw[hv]at hpos
        simp only[Option.getD_some]at hpos
        cases hc:cO t (k+1) o [x0,x1,x2]
        ·rfl
        ·rw[hc,if_pos rfl]at this;omega
     rw[if_pos hpos,hco]
     simp only[sceneL,List.map_cons,List.map_nil]
     generalize hTT:((k+1:Nat):Int)=T1 at*
     rw[den_fn t73 _ _ _ rfl]
     simp only[b73]
     simp (maxSteps:=1000000) (disch:=first|omega|assumption|decide +kernel|(simp;done)|(simp;omega)|fail) [hL,hga,hme,e1,e2,hT,hpos]
    ·rw[if_neg hpos]
     simp only[sceneL,List.map_cons,List.map_nil]
     cases hco:cO t (k+1) o [x0,x1,x2]
     ·have hnone:kvGet K2.1 [((k+1:Nat):Int),(o:Nat),x0,x1,x2]=none:=by
       rw[hkeep]
       cases hv:kvGet K.1 [((k+1:Nat):Int),(o:Nat),x0,x1,x2]with
       |none=>rfl
       |some v=>
         have:=hr v hv
         rw[hco]at this
         rw[hv]at hpos
         simp at this hpos
         omega
      rw[hco]at hg
      simp only[Bool.not_false,if_true]at hg⊢
      have hput:(K2.put [((k+1:Nat):Int),(o:Nat),x0,x1,x2]).1=kvPut K2.1 [((k+1:Nat):Int),(o:Nat),x0,x1,x2] 1:=by
       show kvPut _ _ (cKey t (keyD (k+1) o [x0,x1,x2]))=_
       rw[hw,hco];rfl
      rw[hput]
      have hreg:=reach_region G [(48, .cell [.ptr dg lg 0]),(64, .cell [i64 ((k+1:Nat):Int),i64 (o:Nat),i64 x0,i64 x1,i64 x2]),(80, .cell [.mp (.ptr dm lm 0)]),(96, .cell [.bool false])] ((k+1:Nat):Int) (o:Nat) x0 x1 x2 rfl rfl K2.1 hnone [(3, .ptr L 48 0),(4, .ptr L 64 0),(5, .ptr L 80 0),(6, .ptr L 96 0),(25, .sl .no 1 (es cInt (chB t))),(26,i64 (chB t).length),(27,i64 (cN t).length),(28, .bool false)] rfl rfl rfl
      simp only[reachOps]at hreg
      generalize hTT:((k+1:Nat):Int)=T1 at*
      generalize chB t=C at*
      rw[den_fn t73 _ _ _ rfl]
      simp only[b73]
      simp (maxSteps:=1000000) (disch:=first|omega|assumption|decide +kernel|(simp;done)|(simp;omega)|fail) [run_each2,hL,hga,hme,e1,e2,hT,hpos,hg,hreg]
     ·rw[hco]at hg
      simp only[Bool.not_true,Bool.false_eq_true,if_false]at hg⊢
      generalize hTT:((k+1:Nat):Int)=T1 at*
      generalize chB t=C at*
      rw[den_fn t73 _ _ _ rfl]
      simp only[b73]
      simp (maxSteps:=1000000) (disch:=first|omega|assumption|decide +kernel|(simp;done)|(simp;omega)|fail) [hL,hga,hme,e1,e2,hT,hpos,hg,hg1,hg2]
   ·intro j K2 hj _
    have hj2:(j:Int)<(chB t).length:=by omega
    have hj3:j<(chB t).length:=by omega
    have hcj:(chB t)[j]=((cN t)[j]:Int):=by simp[chB,natI]
    have hc:=cN_lt h (List.getElem_mem hj)
    generalize (cN t)[j]=c at*
    have ho2:xorN o c<32:=Nat.xor_lt_two_pow (n:=5) ho hc
    have y:=reach_yield t (chB t) k (canK t k) ih G j ((k+1:Nat):Int) (((k+1:Nat):Int)-1) hkk o (xorN o c) ho2 [x0,x1,x2]
    obtain⟨n',hn',hl⟩:=e_loopD t h ho2 hn y (K2,false) rfl
    have hm:=fun(loc:Ab.Loc) lab=>e_moves ((k+1:Nat):Int) o c (by omega) x0 x1 x2 ho hc dg lg lab loc (S K2.1) (by rw[hL];omega)
    obtain⟨r1,r2⟩:=reach_fold t k (xorN o c) (canK t k) [x0,x1,x2] K2
    unfold stepC
    generalize foldD t (xorN o c) [x0,x1,x2] (reachY t k (xorN o c) (canK t k)) (K2,false)=Q at*
    obtain⟨⟨K3,fb⟩,bb⟩:=Q
    simp only at r1 r2 hl⊢
    rw[←r1]at r2
    subst r2
    clear r1 y ih ih0
    simp only[hL]at hm
    simp only[reachSt,reachF,reachE,sceneL,List.map_cons,List.map_nil,Nat.reduceAdd]at hl hm
    generalize xorN o c=o2 at*
    generalize hTT:((k+1:Nat):Int)=T1 at*
    generalize chB t=C at*
    cases fb
    ·refine⟨fun _=>⟨?_,trivial⟩,fun hb=>by simp at hb⟩
     simp only[Bool.false_eq_true,if_false]at hl
     simp (maxSteps:=1000000) (disch:=first|omega|assumption|decide +kernel|(simp;done)|(simp;omega)|fail) [hj,hj2,hj3,hcj,hL,hga,e1,e2,hm,hl,wk j (by omega)]
    ·refine⟨fun hb=>by simp at hb,fun _=>⟨⟨([(3, .ptr L 48 0),(4, .ptr L 64 0),(5, .ptr L 80 0),(6, .ptr L 96 0),(25, .sl .no 1 (es cInt C)),(26,i64 C.length),(27,i64 (j:Nat)),(34, .fn 96 [] [.ptr L 544 0, .ptr L 1544 0, .ptr L 2544 0])],
      [(48, .cell [.ptr dg lg 0]),(64, .cell [i64 T1,i64 (o:Nat),i64 x0,i64 x1,i64 x2]),(80, .cell [.mp (.ptr dm lm 0)]),(96, .cell [.bool true]),(544, .cell [.ptr dg lg 0]),(1544, .cell (i64 (T1-1)::i64 (o2:Nat)::n'.map i64)),(2544, .cell [i64 T1,i64 (o:Nat),i64 x0,i64 x1,i64 x2]),
        (18695, .loop [35] b73l1 b73l2 [] .exhausted (some .ret))]),rfl,rfl⟩,?_⟩⟩
     simp only[Bool.false_eq_true,if_false,if_true]at hl
     simp (maxSteps:=1000000) (disch:=first|omega|assumption|decide +kernel|(simp;done)|(simp;omega)|fail) [hj,hj2,hj3,hcj,hL,hga,e1,e2,hm,hl,wk j (by omega)]
   ·intro K2 _
    simp[hcl]
end Go.Proofs.Ytbcjofkfgpbhmaa

/-
  Doors: Catch.
-/
namespace Go.Proofs.Ytbcjofkfgpbhmaa
open Go.Ab
theorem GameD.topM {t C} {s:Stk} {m:V} {lg lm:Nat} {X:List (List Int×Int)→Ab.Loc}(hg: ∀K,(X K).get lg=some (.cell (gameV t C m)))(hm: ∀K,(X K).get lm=some (.mp (some 5) K))(hp: ∀K K',(X K).put lm (.mp (some 5) K')=X K'):
 GameD t C m s.length lg s.length lm (s.length+1) (fun K=>X K::s) where
 len:=fun K=>by simp
 ltg:=by omega
 ltm:=by omega
 game:=fun K=>by rw[sget_top,hg]
 mem:=fun K=>by rw[sget_top,hm]
 put:=fun K K'=>by rw[sput_top,hp]
def aloneT(t:DTrap):DTrap:= {t with groups:=[⟨0,1⟩]}
theorem alone_ok {t:DTrap}(h:DoorOk t):DoorOk (aloneT t) where
 ch:=h.ch
 tu:=h.tu
 ha:=h.ha
 gl:=h.gl
 ol:=by simp[aloneT]
 gates:=h.gates
 groups:=fun g hg=>by
  simp only[aloneT,List.mem_singleton]at hg
  subst hg
  have:=h.ch
  have e:(aloneT t).chambers=t.chambers:=rfl
  rw[e]
  simp only
  omega
def oneN(p:Int):List Int:=[p,0,0]
def catchV(t:DTrap)(p:Int):Int:=if wO (aloneT t) t.turns.toNat (gN t) (oneN p)=1 then 1 else if cO (aloneT t) t.turns.toNat (gN t) (oneN p)=false then 2 else 3
def posOf(t:DTrap)(g:Int):Int:=(posL t).getD g.toNat 0
def catchR(t:DTrap)(g:Int):Int×Int:=if doorB t=true then(if wiB g 0 (t.groups.length-1)=true then(catchV t (posOf t g),0)else(0,1))else(0,30)
abbrev catchX(t:DTrap)(d:Nat)(p:Int)(K:List (List Int×Int)):Ab.Loc:=[(32, .cell (dV t)),(320, .cell (gameV t (chB t) (.mp (.ptr d 1320 0)))),(1320, .mp (some 5) []),(112, .cell (sceneV t.turns (gN t:Nat) p 0 0)),(464, .cell (gameV (aloneT t) (chB t) (.csl (.ptr d 1464 0) 0))),(1464, .mp (some 5) K),(160, .cell (scene0 t))]
set_option maxHeartbeats 8000000 in
theorem e_Catch(t:DTrap)(hs:ShortD t)(g:Int)(lab s):den T 34 [.agg (dV t),i64 g] lab s=some (.tup [i64 (catchR t g).1,i64 (catchR t g).2],s):=by
 have hgr:=hs.groups
 have w1:IntKind.i64.wrap ((t.groups.length:Int)-1)=(t.groups.length:Int)-1:=wi _ (by omega) (by omega)
 unfold catchR
 cases h:doorB t
 ·have hb:=fun b lab loc s=>e_begin_bad t hs h b lab loc s
  rw[den_fn t34 _ _ _ rfl]
  simp only[b34]
  simp (maxSteps:=1000000) (disch:=first|omega|assumption|decide +kernel|(simp;done)|(simp;omega)|fail) [run_drawnK,orSlow_none,hb,w1]
 ·have ho:=doorB_iff.1 h
  have htu:=ho.tu
  cases hw:wiB g 0 (t.groups.length-1)
  ·have hb:=fun lab loc s=>e_begin_arg t ho lab loc s
   rw[den_fn t34 _ _ _ rfl]
   simp only[b34]
   simp (maxSteps:=1000000) (disch:=first|omega|assumption|decide +kernel|(simp;done)|(simp;omega)|fail) [run_drawnK,orSlow_none,hb,w1,hw]
  ·have hgb:0≤g∧g≤t.groups.length-1:=by simpa [wiB]using hw
   have h3:=ho.ol
   have hb:=fun lab loc k0 k1=>e_begin t ho lab loc s k0 k1
   obtain⟨i,rfl⟩: ∃i:Nat,g=i:=⟨g.toNat,by omega⟩
   have hi:i<t.groups.length:=by omega
   have hp:posOf t (i:Nat)=at0 t i:=by
    rw[at0_get hi];simp[posOf,posL,hi]
   have ha:=alone_ok ho
   have hin:InN (aloneT t) (oneN (at0 t i)):=by
    refine⟨rfl,fun j hj=> ?_⟩
    have:j=0:=by simp[aloneT]at hj;omega
    subst this
    have:=(ho.groups _ (List.getElem_mem hi)).1
    rw[at0_get hi]
    exact this
   have hT:((t.turns.toNat:Nat):Int)=t.turns:=by omega
   have hv:=fun lab=>e_value ha t.turns.toNat (by omega) (GameD.topM (t:=aloneT t) (s:=s) (lg:=464) (lm:=1464) (X:=catchX t s.length (at0 t i)) (fun K=>rfl) (fun K=>rfl) (fun K K'=>rfl)) rfl (gN t) (oneN (at0 t i)) Mem.nil lab (gN_lt ho) hin
   have hr:=fun(K0:List (List Int×Int)) lab=>e_reaches ha t.turns.toNat (by omega) (GameD.topM (t:=aloneT t) (s:=s) (lg:=464) (lm:=848) (m:= .csl (.ptr s.length 1464 0) 0) (X:=fun K=>catchX t s.length (at0 t i) K0 ++[(848, .mp (some 5) K)]) (fun K=>rfl) (fun K=>rfl) (fun K K'=>rfl)) (gN t) (oneN (at0 t i)) Mem.nil lab (gN_lt ho) hin
   rw[hT]at hv hr
   simp only[Bool.false_eq_true,if_true,hp,catchV]
   have hk: ∀(a:List (List Int×Int)→Stk),True:=fun _=>trivial
   generalize wO (aloneT t) t.turns.toNat (gN t) (oneN (at0 t i))=w at*
   generalize cO (aloneT t) t.turns.toNat (gN t) (oneN (at0 t i))=b at*
   generalize valK (aloneT t) _ _ _ _=K1 at*
   generalize canK (aloneT t) _ _ _ _=K2 at*
   simp only[catchX,gN,scene0,sceneV,sceneL,oneN,List.map_cons,List.map_nil,List.cons_append,List.nil_append,Mem.nil_val,gameV,gcap,gmp,aloneT,show es cGroup [(⟨0,1⟩:DGroup)]=[[i64 0,i64 1]]from rfl]at hb hv hr
   generalize gateBits t.gates=o at*
   generalize chB t=C at*
   have hil:(i:Int)<3:=by omega
   have hwa: ∀z:Int,z=(i:Int)→wiB z 0 ((t.groups.length:Int)-1)=true:=fun z e=>by rw[e];exact hw
   by_cases hw1:w=1
   ·obtain rfl|rfl|rfl:i=0∨i=1∨i=2:=by omega
    all_goals
     (rw[den_fn t34 _ _ _ rfl]
      simp only[b34]
      simp (maxSteps:=1000000) (disch:=first|omega|assumption|decide +kernel|(simp;done)|(simp;omega)|fail) [run_drawnK,orSlow_none,w1,hwa,hb,hv,hr,hw1])
   ·cases b<;>(obtain rfl|rfl|rfl:i=0∨i=1∨i=2:=by omega)
    all_goals
     (rw[den_fn t34 _ _ _ rfl]
      simp only[b34]
      simp (maxSteps:=1000000) (disch:=first|omega|assumption|decide +kernel|(simp;done)|(simp;omega)|fail) [run_drawnK,orSlow_none,w1,hwa,hb,hv,hr,hw1])
end Go.Proofs.Ytbcjofkfgpbhmaa

/-
  Doors, the law's helpers: Copy, Turning, ready, all, worth, after.
-/
namespace Go.Proofs.Ytbcjofkfgpbhmaa
open Go.Ab
theorem e_CopyD(t:DTrap)(hs:ShortD t)(lab)(loc:Ab.Loc)(s:Stk)(k0:loc.get lab=none)(k1:loc.get (lab+1000)=none):
 den T 32 [.agg (dV t)] lab (loc::s)=some (.agg [i64 t.chambers,i64 t.turns,i64 t.hands, .asl s.length lab 3 t.gates.length 0 t.gates.length, .asl s.length (lab+1000) 2 t.groups.length 0 t.groups.length],
  (loc.put lab (.arr 3 (es cGate t.gates))).put (lab+1000) (.arr 2 (es cGroup t.groups))::s):=by
 have hg:=hs.gates
 have ho:=hs.groups
 rw[den_fn t32 _ _ _ rfl]
 simp only[b32]
 simp (maxSteps:=1000000) (disch:=first|omega|assumption|decide +kernel|(simp;done)|(simp;omega)|fail) [appmD_es,run_drawnK,orSlow_none,k0,k1]
theorem e_Huge(t:DTrap)(lab s):den T 47 [.agg (dV t)] lab s=some (.bool (decide (40<t.gates.length)||decide (40<t.groups.length)),s):=by
 rw[den_fn t47 _ _ _ rfl]
 simp only[b47]
 by_cases h1:40<t.gates.length
 ·have h1':(40:Int)<t.gates.length:=by omega
  simp (maxSteps:=1000000) (disch:=first|omega|assumption|decide +kernel|(simp;done)|(simp;omega)|fail) [h1,h1']
 ·have h1': ¬(40:Int)<t.gates.length:=by omega
  by_cases h2:40<t.groups.length
  ·have h2':(40:Int)<t.groups.length:=by omega
   simp (maxSteps:=1000000) (disch:=first|omega|assumption|decide +kernel|(simp;done)|(simp;omega)|fail) [h1,h1',h2,h2']
  ·have h2': ¬(40:Int)<t.groups.length:=by omega
   simp (maxSteps:=1000000) (disch:=first|omega|assumption|decide +kernel|(simp;done)|(simp;omega)|fail) [h1,h1',h2,h2']
def hugeB(t:DTrap):Bool:=decide (40<t.gates.length)||decide (40<t.groups.length)
end Go.Proofs.Ytbcjofkfgpbhmaa

/-
  Doors, the reference: WaysOf, AreMoves.
-/
namespace Go.Proofs.Ytbcjofkfgpbhmaa
open Go.Ab
def wayG(p c:Int)(g:DGate):Bool:=g.op&&(decide (g.a=p)&&decide (g.b=c)||decide (g.b=p)&&decide (g.a=c))
theorem wayB_eq(gs:List DGate)(p c:Int):wayB gs p c=gs.any (wayG p c):=rfl
theorem foldl_or {α:Type}(f:α→Bool): ∀(l:List α) (b:Bool),l.foldl (fun b x=>b||f x) b=(b||l.any f)
 |[],b=>by simp
 |x::l,b=>by rw[List.foldl_cons,foldl_or f l,List.any_cons,Bool.or_assoc]
set_option maxHeartbeats 8000000 in
theorem e_WaysOf_l1(t:DTrap)(h:DoorOk t)(p c:Int)(out:List Int)(s:Stk):
 Run T b25l1 [(1,i64 p),(2, .ptr s.length 32 0),(5, .sl (.own s.length 81) 1 (es cInt out)),(6,i64 c),(7, .bool false),(8,i64 0)] ([(32, .cell (dV t)),(81, .tok out.length)]::s)=
  some (.exit 2,[(1,i64 p),(2, .ptr s.length 32 0),(5, .sl (.own s.length 81) 1 (es cInt out)),(6,i64 c),(7, .bool (wayB t.gates p c)),(8,i64 t.gates.length),(20, .bool false)],[(32, .cell (dV t)),(81, .tok out.length)]::s):=by
 have key:=loop_fold (T:=Go.Proofs.Ytbcjofkfgpbhmaa.T) (live:=[1,2,5,6,7,8]) (keep:=[32,81,960,976,1056]) (b:=d25l1) t.gates (fun _ _=>True) (fun b g=>b||wayG p c g)
  (fun k b=>[(1,i64 p),(2, .ptr s.length 32 0),(5, .sl (.own s.length 81) 1 (es cInt out)),(6,i64 c),(7, .bool b),(8,i64 (k:Nat))]) (fun _ _=>[(32, .cell (dV t)),(81, .tok out.length)]::s)
  (fun b=>(.exit 2,[(1,i64 p),(2, .ptr s.length 32 0),(5, .sl (.own s.length 81) 1 (es cInt out)),(6,i64 c),(7, .bool b),(8,i64 t.gates.length),(20, .bool false)],[(32, .cell (dV t)),(81, .tok out.length)]::s))
  (by simp) ?_ ?_ ?_ false trivial [(1,i64 p),(2, .ptr s.length 32 0),(5, .sl (.own s.length 81) 1 (es cInt out)),(6,i64 c),(7, .bool false),(8,i64 0)] ([(32, .cell (dV t)),(81, .tok out.length)]::s) (by simp) (by simp)
 ·rw[foldl_or,Bool.false_or,←wayB_eq]at key
  exact key
 ·intro k b hk _
  have hl:=h.gl
  have hk2:(k:Int)<t.gates.length:=by omega
  generalize hG:t.gates[k]=G at*
  have hw:=wk k (by omega)
  cases b
  ·unfold wayG
   cases c1:G.op
   ·simp (maxSteps:=1000000) (disch:=first|omega|assumption|decide +kernel|(simp;done)|(simp;omega)|fail) [hk,hk2,hG,c1,hw]
   ·by_cases c2:G.a=p
    ·by_cases c3:G.b=c
     ·simp (maxSteps:=1000000) (disch:=first|omega|assumption|decide +kernel|(simp;done)|(simp;omega)|fail) [hk,hk2,hG,c1,c2,c3,hw]
     ·by_cases c4:G.b=p
      ·have c5: ¬p=c:=fun e=>c3 (c4.trans e)
       simp (maxSteps:=1000000) (disch:=first|omega|assumption|decide +kernel|(simp;done)|(simp;omega)|fail) [hk,hk2,hG,c1,c2,c3,c4,c5,hw]
      ·simp (maxSteps:=1000000) (disch:=first|omega|assumption|decide +kernel|(simp;done)|(simp;omega)|fail) [hk,hk2,hG,c1,c2,c3,c4,hw]
    ·by_cases c4:G.b=p
     ·by_cases c5:G.a=c
      ·have c6: ¬c=p:=fun e=>c2 (c5.trans e)
       simp (maxSteps:=1000000) (disch:=first|omega|assumption|decide +kernel|(simp;done)|(simp;omega)|fail) [hk,hk2,hG,c1,c4,c5,c6,hw]
      ·simp (maxSteps:=1000000) (disch:=first|omega|assumption|decide +kernel|(simp;done)|(simp;omega)|fail) [hk,hk2,hG,c1,c2,c4,c5,hw]
     ·simp (maxSteps:=1000000) (disch:=first|omega|assumption|decide +kernel|(simp;done)|(simp;omega)|fail) [hk,hk2,hG,c1,c2,c4,hw]
  ·simp only[Bool.true_or]
   simp (maxSteps:=1000000) (disch:=first|omega|assumption|decide +kernel|(simp;done)|(simp;omega)|fail) [hk,hk2,hG,hw]
 ·intro k b hk _;trivial
 ·intro b _
  simp
def wayAdd(gs:List DGate)(p:Int)(a:List Int)(k:Nat):List Int:=if wayB gs p (k:Int)=true then a ++[(k:Int)]else a
theorem wayAdd_all(gs:List DGate)(p:Int)(n:Nat):(List.range n).foldl (wayAdd gs p) []=(rangeI n).filter (wayB gs p):=by
 have: ∀(l:List Nat) (a:List Int),l.foldl (wayAdd gs p) a=a ++(l.map fun(i:Nat)=>(i:Int)).filter (wayB gs p):=by
  intro l
  induction l with
  |nil=>intro a;simp
  |cons x r ih=>
    intro a
    rw[List.foldl_cons,ih]
    unfold wayAdd
    by_cases hx:wayB gs p x=true<;>simp[hx]
 rw[this];rfl
set_option maxHeartbeats 4000000 in
theorem e_WaysOf(t:DTrap)(h:DoorOk t)(p:Int)(lab s):den T 25 [.agg (dV t),i64 p] lab s=some (.sl .no 1 (es cInt (waysS t.chambers.toNat t.gates p)),s):=by
 have hch:=h.ch
 have key:=loop_fold (T:=Go.Proofs.Ytbcjofkfgpbhmaa.T) (live:=[1,2,5,6]) (keep:=[32,81,1056]) (b:=d25l0) (List.range t.chambers.toNat) (fun k (a:List Int)=>a.length≤k) (wayAdd t.gates p)
  (fun k a=>[(1,i64 p),(2, .ptr s.length 32 0),(5, .sl (.own s.length 81) 1 (es cInt a)),(6,i64 (k:Nat))]) (fun _ a=>[(32, .cell (dV t)),(81, .tok a.length)]::s)
  (fun a=>(.exit 0,[(1,i64 p),(2, .ptr s.length 32 0),(5, .sl (.own s.length 81) 1 (es cInt a)),(6,i64 t.chambers.toNat),(13, .bool false)],[(32, .cell (dV t)),(81, .tok a.length)]::s))
  (by simp) ?_ ?_ ?_ [] (by simp) [(5, .sl (.own s.length 81) 1 []),(1,i64 p),(2, .ptr s.length 32 0),(5, .sl .full 1 []),(6,i64 0)] ([(32, .cell (dV t)),(81, .tok 0)]::s) (by simp) (by simp)
 ·rw[wayAdd_all]at key
  unfold waysS
  have hc2:t.chambers=((t.chambers.toNat:Nat):Int):=by omega
  generalize (rangeI t.chambers.toNat).filter (wayB t.gates p)=L at*
  change Run T b25l0 _ _=_ at key
  dsimp only
  cases L with
  |nil=>
    rw[den_fn t25 _ _ _ rfl]
    simp only[b25]
    simp (maxSteps:=1000000) (disch:=first|omega|assumption|decide +kernel|(simp;done)|(simp;omega)|fail) [key]<;>rfl
  |cons x L=>
    rw[if_neg (List.cons_ne_nil x L)]
    generalize hE:es cInt (x::L)=E at*
    have hne: ¬(E.length=0):=by rw[←hE];simp[es]
    have hne2: ¬((E.length:Int)=0):=by omega
    rw[den_fn t25 _ _ _ rfl]
    simp only[b25]
    simp (maxSteps:=1000000) (disch:=first|omega|assumption|decide +kernel|(simp;done)|(simp;omega)|fail) [key,hne,hne2]
 ·intro k a hk hi
  simp only[List.length_range]at hk
  simp only[List.getElem_range]
  have hk2:(k:Int)<t.chambers:=by omega
  have hl1:=e_WaysOf_l1 t h p (k:Nat) a s
  have e0:es cInt a ++[[i64 (k:Nat)]]=es cInt (a ++[(k:Int)]):=by simp[es]
  unfold wayAdd
  cases hw:wayB t.gates p (k:Nat)<;>rw[hw]at hl1
  ·simp (maxSteps:=1000000) (disch:=first|omega|assumption|decide +kernel|(simp;done)|(simp;omega)|fail) [hk2,hl1,wk k (by omega)]
  ·simp (maxSteps:=1000000) (disch:=first|omega|assumption|decide +kernel|(simp;done)|(simp;omega)|fail) [hk2,hl1,e0,appK_own1,wk k (by omega)]
 ·intro k a hk hi
  unfold wayAdd
  split<;>(try simp only[List.length_append,List.length_cons,List.length_nil])<;>omega
 ·intro a hi
  simp only[List.length_range]
  have hc2:((t.chambers.toNat:Nat):Int)=t.chambers:=by omega
  simp (maxSteps:=1000000) (disch:=first|omega|assumption|decide +kernel|(simp;done)|(simp;omega)|fail) [hc2]
end Go.Proofs.Ytbcjofkfgpbhmaa

/-
  Doors, the reference: Changed, Moved.
-/
namespace Go.Proofs.Ytbcjofkfgpbhmaa
open Go.Ab
def flip1(g:DGate):DGate:= {g with op:= !g.op}
def flipAll(c:List Int)(gs:List DGate):List DGate:=c.foldl (fun gs j=>gs.modify j.toNat flip1) gs
theorem flipAll_get: ∀(c:List Int) (gs:List DGate) (i:Nat),c.Pairwise (· < ·)→(∀y∈c,0≤y)→(flipAll c gs)[i]? =(gs[i]?).map fun g=>if (i:Int)∈c then flip1 g else g
 |[],gs,i,_,_=>by simp[flipAll]
 |j::c,gs,i,h,h0=>by
   have ih:=flipAll_get c (gs.modify j.toNat flip1) i (List.pairwise_cons.1 h).2 fun y hy=>h0 y (by simp[hy])
   have hj:=h0 j (by simp)
   have hr:=(List.pairwise_cons.1 h).1
   simp only[flipAll,List.foldl_cons]at ih⊢
   rw[ih,List.getElem?_modify]
   cases hg:gs[i]? with
   |none=>simp
   |some g=>
     by_cases e:j.toNat=i
     ·have e2:(i:Int)=j:=by omega
      have hn: ¬j∈c:=fun hc=>by have:=hr j hc;omega
      simp[e,e2,hn]
     ·have e2: ¬(i:Int)=j:=by omega
      simp[e,e2]
theorem flipAll_eq {c:List Int} {gs:List DGate}(h:c.Pairwise (· < ·))(h0: ∀y∈c,0≤y):flipAll c gs=flipG gs c:=by
 apply List.ext_getElem?
 intro i
 rw[flipAll_get c gs i h h0,flipS_get,Nat.zero_add];rfl
def changedT(t:DTrap)(c:List Int):DTrap:= {t with gates:=flipG t.gates c}
abbrev zeroT:List V:=[i64 0,i64 0,i64 0, .sl .full 3 [], .sl .full 2 []]
@[simp] theorem flipAt_len(gs:List DGate)(j:Nat):(gs.modify j flip1).length=gs.length:=by simp
theorem es_setGate(gs:List DGate)(j:Nat)(hj:j<gs.length)(a b:Int)(o:Bool)(h1:gs[j].a=a)(h2:gs[j].b=b)(h3:gs[j].op=o):(es cGate gs).set j [i64 a,i64 b, .bool (!o)]=es cGate (gs.modify j flip1):=by
 apply List.ext_getElem?
 intro i
 simp only[es,List.getElem?_set,List.getElem?_map,List.getElem?_modify,List.length_map]
 by_cases e:j=i
 ·subst e
  simp[hj,flip1,←h1,←h2,←h3]
 ·simp[e]
abbrev chgF(t:DTrap)(d:Nat)(gs:List DGate)(rs:List DGroup):Ab.Loc:=[(32, .cell (dV t)),(64, .cell zeroT),(144, .arr 3 (es cGate gs)),(1144, .arr 2 (es cGroup rs)),(80, .cell [i64 t.chambers,i64 t.turns,i64 t.hands, .asl d 144 3 t.gates.length 0 t.gates.length, .asl d 1144 2 t.groups.length 0 t.groups.length])]
set_option maxHeartbeats 4000000 in
theorem e_Changed_l(t:DTrap)(hs:ShortD t)(c:List Int)(hc:c.length<1000000000000)(hr: ∀y∈c,0≤y∧y<t.gates.length)(s:Stk):
 Run T b24l0 [(1, .sl .no 1 (es cInt c)),(4, .ptr s.length 64 0),(5, .ptr s.length 80 0),(6,i64 0)] (chgF t s.length t.gates t.groups::s)=
  some (.exit 0,[(1, .sl .no 1 (es cInt c)),(4, .ptr s.length 64 0),(5, .ptr s.length 80 0),(6,i64 c.length),(13, .bool false)],chgF t s.length (flipAll c t.gates) t.groups::s):=by
 have hgl:=hs.gates
 refine loop_fold (T:=Go.Proofs.Ytbcjofkfgpbhmaa.T) (live:=[1,4,5,6]) (keep:=[32,64,80,144,1144]) (b:=d24l0) c (fun _ (gs:List DGate)=>gs.length=t.gates.length) (fun gs j=>gs.modify j.toNat flip1)
  (fun k _=>[(1, .sl .no 1 (es cInt c)),(4, .ptr s.length 64 0),(5, .ptr s.length 80 0),(6,i64 (k:Nat))]) (fun _ gs=>chgF t s.length gs t.groups::s)
  (fun gs=>(.exit 0,[(1, .sl .no 1 (es cInt c)),(4, .ptr s.length 64 0),(5, .ptr s.length 80 0),(6,i64 c.length),(13, .bool false)],chgF t s.length gs t.groups::s))
  (by simp) ?_ ?_ ?_ t.gates rfl [(1, .sl .no 1 (es cInt c)),(4, .ptr s.length 64 0),(5, .ptr s.length 80 0),(6,i64 0)] (chgF t s.length t.gates t.groups::s) (by simp) (by simp)
 ·intro k gs hk hi
  obtain⟨h0,h1⟩:=hr c[k] (List.getElem_mem hk)
  obtain⟨j,hj⟩: ∃j:Nat,c[k]=j:=⟨c[k].toNat,by omega⟩
  have hjl:j<gs.length:=by omega
  have hjl2:j<t.gates.length:=by omega
  have hjt:(c[k]).toNat=j:=by omega
  rw[hjt]
  have hset:=es_setGate gs j hjl gs[j].a gs[j].b gs[j].op rfl rfl rfl
  generalize hG:gs[j]=G at*
  generalize gs.modify j flip1=gs' at*
  have hjl3:(j:Int)<t.gates.length:=by omega
  cases ho:G.op<;>simp only[ho,Bool.not_false,Bool.not_true]at hset
  ·simp (maxSteps:=1000000) (disch:=first|omega|assumption|decide +kernel|(simp;done)|(simp;omega)|fail) [run_drawnK,orSlow_none,hk,hj,hjl,hjl2,hjl3,hi,hG,ho,hset,wk k (by omega)]
  ·simp (maxSteps:=1000000) (disch:=first|omega|assumption|decide +kernel|(simp;done)|(simp;omega)|fail) [run_drawnK,orSlow_none,hk,hj,hjl,hjl2,hjl3,hi,hG,ho,hset,wk k (by omega)]
 ·intro k gs hk hi
  simp[hi]
 ·intro gs hi
  simp
end Go.Proofs.Ytbcjofkfgpbhmaa

/-
  Doors, the reference: Changed, Moved, AreMoves; isTurn, behind.
-/
namespace Go.Proofs.Ytbcjofkfgpbhmaa
open Go.Ab
theorem flipAll_len(c:List Int): ∀gs,(flipAll c gs).length=gs.length:=by
 induction c with
 |nil=>intro gs;rfl
 |cons j c ih=>intro gs;simp only[flipAll,List.foldl_cons]at ih⊢;rw[ih];simp
set_option maxHeartbeats 4000000 in
theorem e_Changed(t:DTrap)(hs:ShortD t)(c:List Int)(hc:c.length<1000000000000)(hr: ∀y∈c,0≤y∧y<t.gates.length)(hp:c.Pairwise (· < ·))(lab s):
 den T 24 [.agg (dV t), .sl .no 1 (es cInt c)] lab s=some (.agg (dV (changedT t c)),s):=by
 have hcp:=fun lab loc s k0 k1=>e_CopyD t hs lab loc s k0 k1
 have hl:=e_Changed_l t hs c hc hr s
 have hlen:=flipAll_len c t.gates
 rw[flipAll_eq hp fun y hy=>(hr y hy).1]at hl hlen
 unfold changedT
 generalize flipG t.gates c=gs at*
 have htk:gs.take t.gates.length=gs:=List.take_of_length_le (by omega)
 rw[den_fn t24 _ _ _ rfl]
 simp only[b24]
 simp (maxSteps:=1000000) (disch:=first|omega|assumption|decide +kernel|(simp;done)|(simp;omega)|fail) [hcp,hl,hlen,htk]
def movedG(m:List Int):Nat→List DGroup→List DGroup
 |_,[]=>[]
 |i,g::r=>(if i<m.length then {g with pos:=m.getD i 0}else g)::movedG m (i+1) r
@[simp] theorem movedG_len(m:List Int): ∀(i:Nat) (gs:List DGroup),(movedG m i gs).length=gs.length
 |_,[]=>rfl
 |i,g::r=>by simp[movedG,movedG_len m (i+1) r]
end Go.Proofs.Ytbcjofkfgpbhmaa

/-
  Doors, the law's helpers: isTurn, behind; the chapter's examples.
-/
namespace Go.Proofs.Ytbcjofkfgpbhmaa
open Go.Ab
def exT:DTrap:=⟨3,2,1,[⟨0,1,true⟩,⟨1,2,false⟩],[⟨0,10⟩,⟨1,7⟩]⟩
def exO:DTrap:=changedT exT [0]
theorem ex_ok:doorB exT=true:=by decide
set_option maxHeartbeats 2000000 in
theorem e_ExampleD(lab s):den T 60 [] lab s=some (.tup [.agg (dV exT), .agg (dV exO)],s):=by
 have hr: ∀y∈([0]:List Int),0≤y∧y<exT.gates.length:=by decide
 have h2:=fun lab s=>e_Changed exT (doorB_short ex_ok) [0] (by decide) hr (by decide) lab s
 change∀lab s,den T _ [.agg [i64 3,i64 2,i64 1, .sl .no 3 [[i64 0,i64 1, .bool true],[i64 1,i64 2, .bool false]], .sl .no 2 [[i64 0,i64 10],[i64 1,i64 7]]], .sl .no 1 [[i64 0]]] lab s=some (.agg [i64 3,i64 2,i64 1, .sl .no 3 [[i64 0,i64 1, .bool false],[i64 1,i64 2, .bool false]], .sl .no 2 [[i64 0,i64 10],[i64 1,i64 7]]],s)at h2
 change _=some (V.tup [.agg [i64 3,i64 2,i64 1, .sl .no 3 [[i64 0,i64 1, .bool true],[i64 1,i64 2, .bool false]], .sl .no 2 [[i64 0,i64 10],[i64 1,i64 7]]], .agg [i64 3,i64 2,i64 1, .sl .no 3 [[i64 0,i64 1, .bool false],[i64 1,i64 2, .bool false]], .sl .no 2 [[i64 0,i64 10],[i64 1,i64 7]]]],s)
 rw[den_fn t60 _ _ _ rfl]
 simp only[b60]
 simp (maxSteps:=1000000) (disch:=first|omega|assumption|decide +kernel|(simp;done)|(simp;omega)|fail) [run_drawnK,orSlow_none,h2]
end Go.Proofs.Ytbcjofkfgpbhmaa

/-
  Doors: the chapter's examples, by the program.
-/
namespace Go.Proofs.Ytbcjofkfgpbhmaa
open Go.Ab
theorem ex_worth:worthR exT=(10,0):=by decide +kernel
theorem ex_plan:planR exT=([1],0):=by decide +kernel
theorem ex_after:afterR exT [0]=(7,0):=by decide +kernel
theorem ex_reply:replyR exT [1]=([1,0],0):=by decide +kernel
theorem ex_catch:catchR exT 1=(1,0):=by decide +kernel
theorem ex_worthO:worthR exO=(7,0):=by decide +kernel
theorem exO_ok:doorB exO=true:=by decide +kernel
set_option maxHeartbeats 2000000 in
theorem e_worksD(lab s):den T 17 [] lab s=some (.bool true,s):=by
 have hs:=doorB_short ex_ok
 have hs2:=doorB_short exO_ok
 have h1:=fun lab s=>e_Worth exT hs lab s
 have h2:=fun lab s=>e_Plan exT hs lab s
 have h3:=fun lab s=>e_After exT hs [0] (by decide) lab s
 have h4:=fun lab s=>e_Reply exT hs [1] (by decide) lab s
 have h5:=fun lab s=>e_Catch exT hs 1 lab s
 have h6:=fun lab s=>e_Worth exO hs2 lab s
 have h0:=fun lab s=>e_ExampleD lab s
 rw[ex_worth]at h1
 rw[ex_plan]at h2
 rw[ex_after]at h3
 rw[ex_reply]at h4
 rw[ex_catch]at h5
 rw[ex_worthO]at h6
 have hs1:=fun lab s=>e_Same2 [1] [1] (by decide) (by decide) lab s
 have hs2:=fun lab s=>e_Same2 [1,0] [1,0] (by decide) (by decide) lab s
 have eA:dV exT=[i64 3,i64 2,i64 1, .sl .no 3 [[i64 0,i64 1, .bool true],[i64 1,i64 2, .bool false]], .sl .no 2 [[i64 0,i64 10],[i64 1,i64 7]]]:=rfl
 have eB:dV exO=[i64 3,i64 2,i64 1, .sl .no 3 [[i64 0,i64 1, .bool false],[i64 1,i64 2, .bool false]], .sl .no 2 [[i64 0,i64 10],[i64 1,i64 7]]]:=rfl
 have c1:es cInt [1]=[[i64 1]]:=rfl
 have c2:es cInt [0]=[[i64 0]]:=rfl
 have c3:es cInt [1,0]=[[i64 1],[i64 0]]:=rfl
 rw[eA]at h1 h2 h3 h4 h5 h0
 rw[eB]at h6 h0
 simp only[c1,c2,c3]at h2 h3 h4 hs1 hs2
 rw[den_fn t17 _ _ _ rfl]
 simp only[b17]
 simp (maxSteps:=1000000) (disch:=first|omega|assumption|decide +kernel|(simp;done)|(simp;omega)|fail) [h0,h1,h2,h3,h4,h5,h6,hs1,hs2]
end Go.Proofs.Ytbcjofkfgpbhmaa

/-
  Doors: the reference's lists and changes.
-/
namespace Go.Proofs.Ytbcjofkfgpbhmaa
open Go.Ab
theorem appK_full_e {α:Type} {c:α→List V} {esz bytes lab:Nat} {s:Stk} {c':Cap} {z':Nat} {a:List α}(h:a=[]):appK esz bytes lab s (.sl .full esz []) (.sl c' z' (es c a))=some (.sl .full esz (es c a),s):=by
 subst h;rw[show es c ([]:List α)=[]from rfl];exact appK_full_nil _ _ _ _ _ _ _ _ (by simp) (by simp) (.inr rfl)
theorem foldl_flat {α β:Type}(g:α→List β): ∀(l:List α) (L:List β),l.foldl (fun L x=>L ++g x) L=L ++l.flatMap g
 |[],L=>by simp
 |x::l,L=>by rw[List.foldl_cons,foldl_flat g l,List.flatMap_cons,List.append_assoc]
theorem lists_succ(m:Nat)(f:List Int)(b:Nat):listsP (m+1) f b=(List.range (b-fromOf f)).foldl (fun L j=>L ++listsP m (f ++[((fromOf f+j:Nat):Int)]) b) []:=by
 rw[foldl_flat,listsP,List.range'_eq_map_range,List.flatMap_map];rfl
theorem pow8 {m:Nat}(h:m≤7):8^m≤2097152:=by
 have:8^m≤8^7:=Nat.pow_le_pow_right (by omega) h
 omega
set_option maxHeartbeats 4000000 in
theorem e_lists_l(b:Nat)(hb:b≤8)(m:Nat)(f:List Int)(hm:f.length+m+1≤8)(hI: ∀(n:Nat) (lab:Nat) (s:Stk),n<8→den T 99 [.sl .no 1 (es cInt (f ++[(n:Int)])),i64 ((f.length:Int)+m+1),i64 b] lab s=some (.sl .no 1 (es cInts (listsP m (f ++[(n:Int)]) b)),s))(s:Stk):
 Run T b99l0 [(8, .sl (.own s.length 129) 1 []),(0, .sl .no 1 (es cInt f)),(1,i64 ((f.length:Int)+m+1)),(2,i64 b),(8, .sl .full 1 []),(9,i64 (fromOf f:Nat))] ([(129, .tok 0)]::s)=some (.exit 0,[(0, .sl .no 1 (es cInt f)),(1,i64 ((f.length:Int)+m+1)),(2,i64 b),(8, .sl (.own s.length 129) 1 (es cInts ((List.range (b-fromOf f)).foldl (fun L j=>L ++listsP m (f ++[((fromOf f+j:Nat):Int)]) b) []))),(9,i64 ((fromOf f:Int)+((List.range (b-fromOf f)).length:Nat))),(29, .bool false)],[(129, .tok ((List.range (b-fromOf f)).foldl (fun L j=>L ++listsP m (f ++[((fromOf f+j:Nat):Int)]) b) []).length)]::s):=by
 have key:=loop_fold (T:=T) (live:=[0,1,2,8,9]) (keep:=[129,240]) (b:=d99l0) (List.range (b-fromOf f)) (fun k L=>L.length≤k*2097152) (fun L j=>L ++listsP m (f ++[((fromOf f+j:Nat):Int)]) b) (fun k (a:List (List Int))=>[(0, .sl .no 1 (es cInt f)),(1,i64 ((f.length:Int)+m+1)),(2,i64 b),(8, .sl (.own s.length 129) 1 (es cInts a)),(9,i64 ((fromOf f:Int)+(k:Nat)))]) (fun k (a:List (List Int))=>[(129, .tok a.length)]::s) (fun(a:List (List Int))=>(.exit 0,[(0, .sl .no 1 (es cInt f)),(1,i64 ((f.length:Int)+m+1)),(2,i64 b),(8, .sl (.own s.length 129) 1 (es cInts a)),(9,i64 ((fromOf f:Int)+((List.range (b-fromOf f)).length:Nat))),(29, .bool false)],[(129, .tok a.length)]::s)) (by simp) ?_ ?_ ?_ [] (by simp) [(8, .sl (.own s.length 129) 1 []),(0, .sl .no 1 (es cInt f)),(1,i64 ((f.length:Int)+m+1)),(2,i64 b),(8, .sl .full 1 []),(9,i64 (fromOf f:Nat))] ([(129, .tok 0)]::s) (by simp) (by simp)
 ·exact key
 ·intro k a hk hi
  try simp only[List.length_range]at hk
  try simp only[List.getElem_range]
  have hk2:(fromOf f:Int)+k<b:=by omega
  have w1:IntKind.i64.wrap ((fromOf f:Int)+k+1)=(fromOf f:Int)+((k:Int)+1):=by rw[wi _ (by omega) (by omega)];omega
  have hL:=lists_len hb m (f ++[((fromOf f+k:Nat):Int)])
  have hp:=pow8 (m:=m) (by omega)
  have hI2:=fun lab s=>hI (fromOf f+k) lab s (by omega)
  simp only[Int.natCast_add]at hI2 hL⊢
  generalize hx:(fromOf f:Int)+k=x at hk2 w1 hI2 hL⊢
  generalize listsP m (f ++[x]) b=Q at hI2 hL⊢
  have b1:(a.length+Q.length)*24≤140737488355328:=by omega
  have b2:a.length+Q.length<140737488355328:=by omega
  have f1: ¬(140737488355328:Int)<f.length*8:=by omega
  have f2: ¬(140737488355328:Int)≤f.length:=by omega
  have ew:(fromOf f:Int)+((k+1:Nat):Int)=(fromOf f:Int)+((k:Int)+1):=by omega
  by_cases h0:f=[]
  ·simp (maxSteps:=1000000) (disch:=first|omega|assumption|decide +kernel|(simp;done)|(simp;omega)|fail) [hx,hk2,w1,hI2,appK_full_e h0,appK_full,appK_own,b1,b2,f1,f2,ew]
  ·simp (maxSteps:=1000000) (disch:=first|omega|assumption|decide +kernel|(simp;done)|(simp;omega)|fail) [hx,hk2,w1,hI2,h0,appK_full,appK_own1,appK_own,b1,b2,f1,f2,ew]
 ·intro k a hk hi
  try simp only[List.length_range]at hk
  try simp only[List.getElem_range]
  have hL:=lists_len hb m (f ++[((fromOf f+k:Nat):Int)])
  have hp:=pow8 (m:=m) (by omega)
  simp only[List.length_append];omega
 ·intro a hi
  have w: ¬(fromOf f:Int)+((b-fromOf f:Nat):Int)<b:=by omega
  simp[w]
set_option maxHeartbeats 4000000 in
theorem e_lists(b:Nat)(hb:b≤8): ∀(m:Nat) (f:List Int),f.length+m≤8→(∀y∈f,0≤y∧y<8)→ ∀(lab:Nat) (s:Stk),
 den T 99 [.sl .no 1 (es cInt f),i64 ((f.length:Int)+m),i64 b] lab s=some (.sl .no 1 (es cInts (listsP m f b)),s)
 |0,f,_,_=>fun lab s=>by
   rw[den_fn t99 _ _ _ rfl]
   simp only[b99]
   simp[listsP,es]
 |m+1,f,hm,hf=>fun lab s=>by
   have hI: ∀(n:Nat) (lab:Nat) (s:Stk),n<8→den T 99 [.sl .no 1 (es cInt (f ++[(n:Int)])),i64 ((f.length:Int)+m+1),i64 b] lab s=some (.sl .no 1 (es cInts (listsP m (f ++[(n:Int)]) b)),s):=fun n lab s hn=>by
    have:=e_lists b hb m (f ++[(n:Int)]) (by simp;omega) (fun y hy=>by
     rcases List.mem_append.1 hy with h|h
     ·exact hf y h
     ·simp only[List.mem_singleton]at h;omega) lab s
    have e2:(((f ++[(n:Int)]).length:Nat):Int)+m=(f.length:Int)+m+1:=by simp;omega
    rw[e2]at this
    exact this
   have hL:=e_lists_l b hb m f (by omega) hI s
   rw[←lists_succ]at hL
   have em:((m+1:Nat):Int)=(m:Int)+1:=by omega
   have e0:(f.length:Int)+((m:Int)+1)=(f.length:Int)+m+1:=by omega
   have e1: ¬(f.length:Int)=(f.length:Int)+m+1:=by omega
   rw[em,e0]
   rw[den_fn t99 _ _ _ rfl]
   simp only[b99]
   by_cases h0:f=[]
   ·subst h0
    have hfr:fromOf []=0:=rfl
    rw[hfr]at hL
    simp only[List.length_nil,Int.natCast_zero,Int.zero_add,es_nil]at hL e1⊢
    have e2: ¬(0:Int)=(m:Int)+1:=by omega
    simp (maxSteps:=1000000) (disch:=first|omega|assumption|decide +kernel|(simp;done)|(simp;omega)|fail) [hL,e2]
   ·have hl0:=List.length_pos_iff.2 h0
    have hlast:f.getLast? =some f[f.length-1]:=by rw[List.getLast?_eq_getElem?,List.getElem?_eq_getElem]
    have hb1:=hf f[f.length-1] (List.getElem_mem (by omega))
    have hfr:(fromOf f:Int)=f[f.length-1]+1:=by unfold fromOf;rw[hlast];dsimp only;omega
    have w1:IntKind.i64.wrap ((f.length:Int)-1)=(f.length:Int)-1:=wi _ (by omega) (by omega)
    have w2:IntKind.i64.wrap (f[f.length-1]+1)=(fromOf f:Int):=by rw[wi _ (by omega) (by omega),hfr]
    have t1:((f.length:Int)-1).toNat=f.length-1:=by omega
    have t2:0≤(f.length:Int)-1:=by omega
    have t3:0<(f.length:Int):=by omega
    have t4:f.length-1<f.length:=by omega
    have t5: ¬(f.length:Int)<1:=by omega
    simp (maxSteps:=1000000) (disch:=first|omega|assumption|decide +kernel|(simp;done)|(simp;omega)|fail) [hL,e1,w1,w2,t1,t2,t3,t4,t5,hl0]
theorem choices_lists: ∀g,g<6→ ∀h,h<4→(List.range (min h g+1)).foldl (fun L m=>L ++listsP m [] g) []=choicesS h g:=by decide +kernel
theorem choices_bound: ∀g,g<6→ ∀h,h<4→ ∀k,k≤min h g→(listsP k [] g).length≤100:=by decide +kernel
set_option maxHeartbeats 4000000 in
theorem e_ChoicesOf(t:DTrap)(h:DoorOk t)(lab s):den T 77 [.agg (dV t)] lab s=some (.sl .no 1 (es cInts (choicesS t.hands.toNat t.gates.length)),s):=by
 have hgl:=h.gl
 have hha:=h.ha
 have hM:((min t.hands.toNat t.gates.length:Nat):Int)=min t.hands t.gates.length:=by omega
 have key:=loop_fold (T:=Go.Proofs.Ytbcjofkfgpbhmaa.T) (live:=[1,3,4]) (keep:=[16,49]) (b:=d77l0) (List.range (min t.hands.toNat t.gates.length+1)) (fun k (a:List (List Int))=>a.length≤100*k) (fun L m=>L ++listsP m [] t.gates.length)
  (fun k a=>[(1, .ptr s.length 16 0),(3, .sl (.own s.length 49) 1 (es cInts a)),(4,i64 (k:Nat))]) (fun _ a=>[(16, .cell (dV t)),(49, .tok a.length)]::s)
  (fun a=>(.exit 0,[(1, .ptr s.length 16 0),(3, .sl (.own s.length 49) 1 (es cInts a)),(4,i64 ((min t.hands.toNat t.gates.length+1:Nat):Int)),(15, .bool false)],[(16, .cell (dV t)),(49, .tok a.length)]::s))
  (by simp) ?_ ?_ ?_ [] (by simp) [(3, .sl (.own s.length 49) 1 []),(1, .ptr s.length 16 0),(3, .sl .full 1 []),(4,i64 0)] ([(16, .cell (dV t)),(49, .tok 0)]::s) (by simp) (by simp)
 ·rw[choices_lists _ (by omega) _ (by omega)]at key
  change Run T b77l0 _ _=_ at key
  generalize choicesS t.hands.toNat t.gates.length=L at*
  rw[den_fn t77 _ _ _ rfl]
  simp only[b77]
  simp (maxSteps:=1000000) (disch:=first|omega|assumption|decide +kernel|(simp;done)|(simp;omega)|fail) [key]
 ·intro k a hk hi
  simp only[List.length_range]at hk
  simp only[List.getElem_range]
  have hk1:(k:Int)≤t.hands:=by omega
  have hk2:(k:Int)≤t.gates.length:=by omega
  have hls:=fun lab s=>e_lists t.gates.length (by omega) k [] (by simp;omega) (by simp) lab s
  simp only[List.length_nil,Int.natCast_zero,Int.zero_add,es_nil]at hls
  have hb:=choices_bound t.gates.length (by omega) t.hands.toNat (by omega) k (by omega)
  generalize listsP k [] t.gates.length=Q at*
  have b1:(a.length+Q.length)*24≤140737488355328:=by omega
  have b2:a.length+Q.length<140737488355328:=by omega
  simp (maxSteps:=1000000) (disch:=first|omega|assumption|decide +kernel|(simp;done)|(simp;omega)|fail) [hk1,hk2,hls,appK_own,b1,b2,wk k (by omega)]
 ·intro k a hk hi
  simp only[List.length_range]at hk
  simp only[List.getElem_range]
  have hb:=choices_bound t.gates.length (by omega) t.hands.toNat (by omega) k (by omega)
  simp only[List.length_append];omega
 ·intro a hi
  simp only[List.length_range]
  by_cases hx:t.hands<t.gates.length
  ·have e1: ¬((min t.hands.toNat t.gates.length+1:Nat):Int)≤t.hands:=by omega
   generalize ((min t.hands.toNat t.gates.length+1:Nat):Int)=N at*
   simp (maxSteps:=1000000) (disch:=first|omega|assumption|decide +kernel|(simp;done)|(simp;omega)|fail) [e1]
  ·have e1: ¬((min t.hands.toNat t.gates.length+1:Nat):Int)≤t.gates.length:=by omega
   generalize ((min t.hands.toNat t.gates.length+1:Nat):Int)=N at*
   by_cases e2:N≤t.hands
   ·simp (maxSteps:=1000000) (disch:=first|omega|assumption|decide +kernel|(simp;done)|(simp;omega)|fail) [e1,e2]
   ·simp (maxSteps:=1000000) (disch:=first|omega|assumption|decide +kernel|(simp;done)|(simp;omega)|fail) [e2]
end Go.Proofs.Ytbcjofkfgpbhmaa

/-
  Doors: Ways and Choices, by the program and by the reference; equal lists, equal traps.
-/
namespace Go.Proofs.Ytbcjofkfgpbhmaa
open Go.Ab
def waysR(t:DTrap)(g:Int):List Int×Int:=if doorB t=true then(if wiB g 0 ((t.groups.length:Int)-1)=true then(waysS t.chambers.toNat t.gates (posOf t g),0)else([],1))else([],30)
def choicesR(t:DTrap):List (List Int)×Int:=if doorB t=true then(choicesS t.hands.toNat t.gates.length,0)else([],30)
set_option maxHeartbeats 4000000 in
theorem e_WaysR(t:DTrap)(hs:ShortD t)(g:Int)(lab s):den T 51 [.agg (dV t),i64 g] lab s=some (.tup [.sl .no 1 (es cInt (waysR t g).1),i64 (waysR t g).2],s):=by
 have hg:=fun n lab s=>e_IsGroup t hs n lab s
 have ha:=fun b lab s=>e_ask t hs b lab s
 unfold waysR
 unfold askD at ha
 cases h:doorB t
 ·simp only[h,Bool.false_eq_true,if_false]at ha
  rw[den_fn t51 _ _ _ rfl]
  simp only[b51]
  simp (maxSteps:=1000000) (disch:=first|omega|assumption|decide +kernel|(simp;done)|(simp;omega)|fail) [run_drawnK,orSlow_none,hg,ha]
 ·simp only[h,if_true]at ha
  cases hw:wiB g 0 ((t.groups.length:Int)-1)
  ·rw[den_fn t51 _ _ _ rfl]
   simp only[b51]
   simp (maxSteps:=1000000) (disch:=first|omega|assumption|decide +kernel|(simp;done)|(simp;omega)|fail) [run_drawnK,orSlow_none,hg,ha,hw]
  ·have ho:=doorB_iff.1 h
   have hgb:=wiB_iff.1 hw
   obtain⟨i,rfl⟩: ∃i:Nat,g=i:=⟨g.toNat,by omega⟩
   have hi:i<t.groups.length:=by omega
   have hi2:(i:Int)<t.groups.length:=by omega
   have hp:posOf t (i:Nat)=t.groups[i].pos:=by simp[posOf,posL,hi,List.getD]
   have hwo:=fun p lab s=>e_WaysOf t ho p lab s
   rw[hp]
   generalize hG:t.groups[i]=G at*
   rw[den_fn t51 _ _ _ rfl]
   simp only[b51]
   simp (maxSteps:=1000000) (disch:=first|omega|assumption|decide +kernel|(simp;done)|(simp;omega)|fail) [run_drawnK,orSlow_none,hg,ha,hw,hi,hi2,hG,hwo]
set_option maxHeartbeats 8000000 in
theorem e_WaysP(t:DTrap)(hs:ShortD t)(g:Int)(lab s):den T 50 [.agg (dV t),i64 g] lab s=some (.tup [.sl .no 1 (es cInt (waysR t g).1),i64 (waysR t g).2],s):=by
 have hgr:=hs.groups
 have w1:IntKind.i64.wrap ((t.groups.length:Int)-1)=(t.groups.length:Int)-1:=wi _ (by omega) (by omega)
 unfold waysR
 cases h:doorB t
 ·have hb:=fun b lab loc s=>e_begin_bad t hs h b lab loc s
  rw[den_fn t50 _ _ _ rfl]
  simp only[b50]
  simp (maxSteps:=1000000) (disch:=first|omega|assumption|decide +kernel|(simp;done)|(simp;omega)|fail) [run_drawnK,orSlow_none,hb,w1]
 ·have ho:=doorB_iff.1 h
  cases hw:wiB g 0 ((t.groups.length:Int)-1)
  ·have hb:=fun lab loc s=>e_begin_arg t ho lab loc s
   rw[den_fn t50 _ _ _ rfl]
   simp only[b50]
   simp (maxSteps:=1000000) (disch:=first|omega|assumption|decide +kernel|(simp;done)|(simp;omega)|fail) [run_drawnK,orSlow_none,hb,w1,hw]
  ·have hgb:=wiB_iff.1 hw
   have h3:=ho.ol
   have hb:=fun lab loc k0 k1=>e_begin t ho lab loc s k0 k1
   obtain⟨i,rfl⟩: ∃i:Nat,g=i:=⟨g.toNat,by omega⟩
   have hi:i<t.groups.length:=by omega
   have hp:posOf t (i:Nat)=at0 t i:=by rw[at0_get hi];simp[posOf,posL,hi,List.getD]
   have hwy:=fun(F:Ab.Loc) (hF:Loc.get F 272=some (.cell (gameV t (chB t) (.mp (.ptr s.length 1272 0))))) lab=>e_ways t ho.gl ho.gates (chB t) (.mp (.ptr s.length 1272 0)) (gateBits t.gates) (gateBits_lt ho.gl) (at0 t i) s.length 272 (F::s) (by simp) (by simp[hF]) lab
   rw[openG_bits]at hwy
   simp only[Bool.false_eq_true,if_true,hp]
   have hwa: ∀z:Int,z=(i:Int)→wiB z 0 ((t.groups.length:Int)-1)=true:=fun z e=>by rw[e];exact hw
   simp only[scene0,sceneV]at hb
   generalize waysS t.chambers.toNat t.gates (at0 t i)=W at*
   generalize gateBits t.gates=o at*
   generalize chB t=C at*
   obtain rfl|rfl|rfl:i=0∨i=1∨i=2:=by omega
   all_goals
    (rw[den_fn t50 _ _ _ rfl]
     simp only[b50]
     simp (maxSteps:=1000000) (disch:=first|omega|assumption|decide +kernel|(simp;done)|(simp;omega)|fail) [run_drawnK,orSlow_none,hb,w1,hwa,hwy])
theorem e_ChoicesR(t:DTrap)(hs:ShortD t)(lab s):den T 53 [.agg (dV t)] lab s=some (.tup [.sl .no 1 (es cInts (choicesR t).1),i64 (choicesR t).2],s):=by
 have hc:=fun lab s=>e_CheckR t hs lab s
 unfold choicesR
 cases h:doorB t<;>simp only[h,Bool.false_eq_true,if_false,if_true]at hc
 ·rw[den_fn t53 _ _ _ rfl]
  simp only[b53]
  simp (maxSteps:=1000000) (disch:=first|omega|assumption|decide +kernel|(simp;done)|(simp;omega)|fail) [hc]
 ·have hch:=fun lab s=>e_ChoicesOf t (doorB_iff.1 h) lab s
  generalize choicesS t.hands.toNat t.gates.length=L at*
  rw[den_fn t53 _ _ _ rfl]
  simp only[b53]
  simp (maxSteps:=1000000) (disch:=first|omega|assumption|decide +kernel|(simp;done)|(simp;omega)|fail) [hc,hch]
theorem cN_bits {t:DTrap}(h:DoorOk t):(cN t).map bitsL=choicesS t.hands.toNat t.gates.length:=by
 simp only[cN,changesB,List.map_map]
 have: ∀l:List (List Int),(∀c∈l,c∈allL 5)→l.map (bitsL∘maskL)=l:=by
  intro l
  induction l with
  |nil=>intro _;rfl
  |cons x r ih=>
    intro hh
    simp only[List.map_cons,Function.comp]
    rw[bits_mask x (hh x (by simp))]
    have:=ih fun c hc=>hh c (by simp[hc])
    rw[this]
 exact this _ fun c hc=>choices_up (by have:=h.gl;omega) hc
theorem foldl_snoc {α β:Type}(f:α→β): ∀(l:List α) (a:List β),l.foldl (fun a x=>a ++[f x]) a=a ++l.map f
 |[],a=>by simp
 |x::l,a=>by rw[List.foldl_cons,foldl_snoc f l];simp
set_option maxHeartbeats 4000000 in
theorem e_ChoicesP(t:DTrap)(hs:ShortD t)(lab s):den T 52 [.agg (dV t)] lab s=some (.tup [.sl .no 1 (es cInts (choicesR t).1),i64 (choicesR t).2],s):=by
 unfold choicesR
 cases h:doorB t
 ·have hb:=fun b lab loc s=>e_begin_bad t hs h b lab loc s
  rw[den_fn t52 _ _ _ rfl]
  simp only[b52]
  simp (maxSteps:=1000000) (disch:=first|omega|assumption|decide +kernel|(simp;done)|(simp;omega)|fail) [hb]
 ·have ho:=doorB_iff.1 h
  have hb:=fun lab loc k0 k1=>e_begin t ho lab loc s k0 k1
  have hcl:(chB t).length=(cN t).length:=by simp[chB,natI]
  have hlen:(cN t).length≤32:=by rw[←hcl];exact(chB_len ho).2.2
  have lp:=loop_fold (T:=Go.Proofs.Ytbcjofkfgpbhmaa.T) (live:=[7,22,23,24]) (keep:=[16,80,113,192]) (b:=d52l0) (cN t) (fun k (a:List (List Int))=>a.length=k) (fun a c=>a ++[bitsL c])
   (fun k a=>[(7, .sl (.own s.length 113) 1 (es cInts a)),(22, .sl .no 1 (es cInt (chB t))),(23,i64 (cN t).length),(24,i64 (k:Nat))]) (fun _ a=>[(16, .cell (dV t)),(192, .cell [i64 t.chambers,i64 t.turns,i64 t.hands, .sl .no 3 (es cGate t.gates), .sl .no 2 (es cGroup t.groups), .sl .no 1 (es cInt (chB t)), .mp .undef]),(80, .cell (scene0 t)),(113, .tok a.length)]::s)
   (fun a=>(.exit 0,[(7, .sl (.own s.length 113) 1 (es cInts a)),(22, .sl .no 1 (es cInt (chB t))),(23,i64 (cN t).length),(24,i64 (cN t).length),(25, .bool false)],[(16, .cell (dV t)),(192, .cell [i64 t.chambers,i64 t.turns,i64 t.hands, .sl .no 3 (es cGate t.gates), .sl .no 2 (es cGroup t.groups), .sl .no 1 (es cInt (chB t)), .mp .undef]),(80, .cell (scene0 t)),(113, .tok a.length)]::s))
   (by simp) ?_ ?_ ?_ [] (by simp) [(7, .sl (.own s.length 113) 1 []),(7, .sl .full 1 []),(22, .sl .no 1 (es cInt (chB t))),(23,i64 (cN t).length),(24,i64 0)] ([(16, .cell (dV t)),(192, .cell (gameV t (chB t) (.mp (.ptr s.length 1192 0)))),(1192, .mp (some 5) []),(80, .cell (scene0 t)),(113, .tok 0)]::s) (by simp) (by simp)
  ·rw[foldl_snoc,List.nil_append,cN_bits ho]at lp
   change Run T b52l0 _ _=_ at lp
   simp only[scene0,sceneV]at hb lp
   generalize choicesS t.hands.toNat t.gates.length=L at*
   generalize chB t=C at*
   generalize (cN t).length=N at*
   generalize gateBits t.gates=o at*
   rw[den_fn t52 _ _ _ rfl]
   simp only[b52]
   simp (maxSteps:=1000000) (disch:=first|omega|assumption|decide +kernel|(simp;done)|(simp;omega)|fail) [hb,hcl,lp]
  ·intro k a hk hi
   have hj2:(k:Int)<(cN t).length:=by omega
   have hj3:k<(chB t).length:=by omega
   have hcj:(chB t)[k]=((cN t)[k]:Int):=by simp[chB,natI]
   have hc:=cN_lt ho (List.getElem_mem hk)
   have hls:=fun lab s=>e_list (cN t)[k] hc lab s
   generalize (cN t)[k]=c at*
   have e0:es cInts a ++[[.sl .no 1 (es cInt (bitsL c))]]=es cInts (a ++[bitsL c]):=by simp[es]
   simp (maxSteps:=1000000) (disch:=first|omega|assumption|decide +kernel|(simp;done)|(simp;omega)|fail) [hk,hj2,hj3,hcj,hls,e0,appK_own1,wk k (by omega)]
  ·intro k a hk hi
   simp[hi]
  ·intro a hi
   simp
theorem sameLists_l(a b:List (List Int))(h:b.length=a.length)(hl:a.length<1000000)(ha: ∀x∈a,x.length<4611686018427387904)(hb: ∀x∈b,x.length<4611686018427387904)(s:Stk):
 Run T b54l0 [(0, .sl .no 1 (es cInts a)),(1, .sl .no 1 (es cInts b)),(5,i64 0)] ([]::s)=
  if allB (fun k=>decide (a.getD k []=b.getD k [])) (List.range a.length)=true then some (.exit 0,[(0, .sl .no 1 (es cInts a)),(1, .sl .no 1 (es cInts b)),(5,i64 a.length),(14, .bool false)],[]::s)else some (.ret,[(4, .bool false)],[]::s):=by
 refine loop_all (List.range a.length) (fun k=>decide (a.getD k []=b.getD k [])) (fun k=>[(0, .sl .no 1 (es cInts a)),(1, .sl .no 1 (es cInts b)),(5,i64 (k:Nat))]) (fun _=>[]::s) _ _ (by simp) (by simp) ?_ (by simp) _ _ (by simp) (by simp)
 intro k hk
 simp only[List.length_range]at hk
 simp only[List.getElem_range]
 have hkb:k<b.length:=by omega
 have e1:a.getD k []=a[k]:=by simp[List.getD,hk]
 have e2:b.getD k []=b[k]:=by simp[List.getD,hkb]
 have hsm:=fun lab s=>e_Same2 a[k] b[k] (ha _ (List.getElem_mem hk)) (hb _ (List.getElem_mem hkb)) lab s
 rw[e1,e2]
 generalize hx:a[k]=x at*
 generalize hy:b[k]=y at*
 by_cases hxy:x=y
 ·subst hxy
  simp (maxSteps:=1000000) (disch:=first|omega|assumption|decide +kernel|(simp;done)|(simp;omega)|fail) [run_drawnK,orSlow_none,hk,hkb,hx,hy,hsm,wk k (by omega)]
 ·simp (maxSteps:=1000000) (disch:=first|omega|assumption|decide +kernel|(simp;done)|(simp;omega)|fail) [run_drawnK,orSlow_none,hk,hkb,hx,hy,hsm,hxy]
end Go.Proofs.Ytbcjofkfgpbhmaa

/-
  DoorsWays: its equation.
-/
namespace Go.Proofs.Ytbcjofkfgpbhmaa
open Go.Ab
theorem e_sameLists(a:List (List Int))(hl:a.length<1000000)(ha: ∀x∈a,x.length<4611686018427387904)(lab s):den T 54 [.sl .no 1 (es cInts a), .sl .no 1 (es cInts a)] lab s=some (.bool true,s):=by
 have h:=sameLists_l a a rfl hl ha ha s
 have e:allB (fun k=>decide (a.getD k []=a.getD k [])) (List.range a.length)=true:=by simp[allB]
 rw[if_pos e]at h
 rw[den_fn t54 _ _ _ rfl]
 simp only[b54]
 simp (maxSteps:=1000000) (disch:=first|omega|assumption|decide +kernel|(simp;done)|(simp;omega)|fail) [h]
theorem same_l0(t:DTrap)(hg:t.gates.length≤40)(s:Stk):
 Run T b40l0 [(2, .ptr s.length 32 0),(3, .ptr s.length 48 0),(5,i64 0)] ([(32, .cell (dV t)),(48, .cell (dV t))]::s)=some (.exit 0,[(2, .ptr s.length 32 0),(3, .ptr s.length 48 0),(5,i64 t.gates.length),(48, .bool false)],[(32, .cell (dV t)),(48, .cell (dV t))]::s):=by
 have key:=loop_fold (T:=Go.Proofs.Ytbcjofkfgpbhmaa.T) (live:=[2,3,5]) (keep:=[32,48]) (b:=d40l0) (List.range t.gates.length) (fun _ (_:Unit)=>True) (fun a _=>a)
  (fun k _=>[(2, .ptr s.length 32 0),(3, .ptr s.length 48 0),(5,i64 (k:Nat))]) (fun _ _=>[(32, .cell (dV t)),(48, .cell (dV t))]::s)
  (fun _=>(.exit 0,[(2, .ptr s.length 32 0),(3, .ptr s.length 48 0),(5,i64 t.gates.length),(48, .bool false)],[(32, .cell (dV t)),(48, .cell (dV t))]::s))
  (by simp) ?_ (by simp) ?_ () trivial [(2, .ptr s.length 32 0),(3, .ptr s.length 48 0),(5,i64 0)] ([(32, .cell (dV t)),(48, .cell (dV t))]::s) (by simp) (by simp)
 ·exact key
 ·intro k _ hk _
  simp only[List.length_range]at hk
  have hk2:(k:Int)<t.gates.length:=by omega
  generalize hG:t.gates[k]=G at*
  simp (maxSteps:=1000000) (disch:=first|omega|assumption|decide +kernel|(simp;done)|(simp;omega)|fail) [run_drawnK,orSlow_none,hk,hk2,hG,wk k (by omega)]
 ·intro _ _
  simp
theorem same_l1(t:DTrap)(hg:t.groups.length≤40)(s:Stk):
 Run T b40l1 [(2, .ptr s.length 32 0),(3, .ptr s.length 48 0),(6,i64 0)] ([(32, .cell (dV t)),(48, .cell (dV t))]::s)=some (.exit 2,[(2, .ptr s.length 32 0),(3, .ptr s.length 48 0),(6,i64 t.groups.length),(66, .bool false)],[(32, .cell (dV t)),(48, .cell (dV t))]::s):=by
 have key:=loop_fold (T:=Go.Proofs.Ytbcjofkfgpbhmaa.T) (live:=[2,3,6]) (keep:=[32,48]) (b:=d40l1) (List.range t.groups.length) (fun _ (_:Unit)=>True) (fun a _=>a)
  (fun k _=>[(2, .ptr s.length 32 0),(3, .ptr s.length 48 0),(6,i64 (k:Nat))]) (fun _ _=>[(32, .cell (dV t)),(48, .cell (dV t))]::s)
  (fun _=>(.exit 2,[(2, .ptr s.length 32 0),(3, .ptr s.length 48 0),(6,i64 t.groups.length),(66, .bool false)],[(32, .cell (dV t)),(48, .cell (dV t))]::s))
  (by simp) ?_ (by simp) ?_ () trivial [(2, .ptr s.length 32 0),(3, .ptr s.length 48 0),(6,i64 0)] ([(32, .cell (dV t)),(48, .cell (dV t))]::s) (by simp) (by simp)
 ·exact key
 ·intro k _ hk _
  simp only[List.length_range]at hk
  have hk2:(k:Int)<t.groups.length:=by omega
  generalize hG:t.groups[k]=G at*
  simp (maxSteps:=1000000) (disch:=first|omega|assumption|decide +kernel|(simp;done)|(simp;omega)|fail) [run_drawnK,orSlow_none,hk,hk2,hG,wk k (by omega)]
 ·intro _ _
  simp
set_option maxHeartbeats 2000000 in
theorem e_SameD(t:DTrap)(hg:t.gates.length≤40)(hr:t.groups.length≤40)(lab s):den T 40 [.agg (dV t), .agg (dV t)] lab s=some (.bool true,s):=by
 have h0:=same_l0 t hg s
 have h1:=same_l1 t hr s
 rw[den_fn t40 _ _ _ rfl]
 simp only[b40]
 simp (maxSteps:=1000000) (disch:=first|omega|assumption|decide +kernel|(simp;done)|(simp;omega)|fail) [h0,h1]
set_option maxHeartbeats 4000000 in
theorem e_DoorsWays(t:DTrap)(hs:ShortD t)(g:Int)(lab s):den T 11 [.agg (dV t),i64 g] lab s=some (.bool true,s):=by
 have hh:=fun lab s=>e_Huge t lab s
 have hwo:=fun lab s=>e_worksD lab s
 change∀lab s,_=some (V.bool (hugeB t),s)at hh
 cases h0:hugeB t<;>rw[h0]at hh
 rotate_left
 ·rw[den_fn t11 _ _ _ rfl]
  simp only[b11]
  simp (maxSteps:=1000000) (disch:=first|omega|assumption|decide +kernel|(simp;done)|(simp;omega)|fail) [hh,hwo]
 have hb:t.gates.length≤40∧t.groups.length≤40:=by
  simp only[hugeB,Bool.or_eq_false_iff,decide_eq_false_iff_not]at h0;omega
 have hcp:=fun lab loc s k0 k1=>e_CopyD t hs lab loc s k0 k1
 have hc1:=fun lab s=>e_CheckD t hs lab s
 have hc2:=fun lab s=>e_CheckR t hs lab s
 have hw1:=fun lab s=>e_WaysP t hs g lab s
 have hw2:=fun lab s=>e_WaysR t hs g lab s
 have hq1:=fun lab s=>e_ChoicesP t hs lab s
 have hq2:=fun lab s=>e_ChoicesR t hs lab s
 have hsd:=fun lab s=>e_SameD t hb.1 hb.2 lab s
 have hwl:(waysR t g).1.length<4611686018427387904:=by
  unfold waysR
  split
  ·rename_i hd
   split
   ·have:=waysS_len (n:=t.chambers.toNat) (gs:=t.gates) (p:=posOf t g)
    have:=(doorB_iff.1 hd).ch
    simp only;omega
   ·simp
  ·simp
 have hs1:=fun lab s=>e_Same2 (waysR t g).1 (waysR t g).1 hwl hwl lab s
 have hcl:(choicesR t).1.length<1000000∧ ∀x∈(choicesR t).1,x.length<4611686018427387904:=by
  unfold choicesR
  split
  ·rename_i hd
   have ho:=doorB_iff.1 hd
   refine⟨?_,fun x hx=> ?_⟩
   ·have h1:=(chB_len ho).2.2
    have h2:(chB t).length=(choicesS t.hands.toNat t.gates.length).length:=by simp[chB,natI,changesB]
    simp only;omega
   ·have:=(mem_choices.1 hx).1
    have:=ho.ha
    omega
  ·simp
 have hsl:=fun lab s=>e_sameLists (choicesR t).1 hcl.1 hcl.2 lab s
 simp only[decide_true]at hs1
 generalize (waysR t g)=W at*
 generalize (choicesR t)=Q at*
 generalize (if doorB t=true then(0:Int)else 30)=E at*
 have tg:(es cGate t.gates).take t.gates.length=es cGate t.gates:=List.take_of_length_le (by simp)
 rw[den_fn t11 _ _ _ rfl]
 simp only[b11]
 simp (maxSteps:=1000000) (disch:=first|omega|assumption|decide +kernel|(simp;done)|(simp;omega)|fail) [run_drawnK,orSlow_none,hh,hwo,hcp,hc1,hc2,hw1,hw2,hq1,hq2,hsd,hs1,hsl]
end Go.Proofs.Ytbcjofkfgpbhmaa

/-
  What the arguments of the laws of doors read as.
-/
namespace Go.Proofs.Ytbcjofkfgpbhmaa
open Go.Ab
set_option maxRecDepth 100000
theorem cells48:Try.prog.cellsOf 48=3:=by kernel_rfl
theorem cells39:Try.prog.cellsOf 39=2:=by kernel_rfl
variable {B : TypeId → Nat → Prop} {n : Nat} {vs : List V}
theorem fit_int(h:Fit Try.prog B (n+1) 3 vs): ∃x,vs=[i64 x]:=by
 simp only[Fit,Try.underlying3]at h
 exact h
theorem fit_bool(h:Fit Try.prog B (n+1) 4 vs): ∃x,vs=[.bool x]:=by
 simp only[Fit,Try.underlying4]at h
 exact h
theorem es_all {α:Type} {f:α→List V}(l:List (List V))(h: ∀x∈l,∃y,x=f y): ∃l':List α,l=es f l':=by
 obtain⟨l',h1,_⟩:=es_of (Q:=fun _=>True) l fun x hx=>by obtain⟨y,hy⟩:=h x hx;exact⟨y,hy,trivial⟩
 exact⟨l',h1⟩
theorem fit_gate(h:Fit Try.prog B (n+2) 48 vs): ∃g:DGate,vs=cGate g:=by
 rw[Fit,Try.underlying48]at h
 simp only[FitF]at h
 obtain⟨_,_,rfl,h0,_,_,rfl,h1,_,_,rfl,h2,rfl⟩:=h
 obtain⟨a,rfl⟩:=fit_int h0
 obtain⟨b,rfl⟩:=fit_int h1
 obtain⟨c,rfl⟩:=fit_bool h2
 exact⟨⟨a,b,c⟩,rfl⟩
theorem fit_group(h:Fit Try.prog B (n+2) 39 vs): ∃g:DGroup,vs=cGroup g:=by
 rw[Fit,Try.underlying39]at h
 simp only[FitF]at h
 obtain⟨_,_,rfl,h0,_,_,rfl,h1,rfl⟩:=h
 obtain⟨a,rfl⟩:=fit_int h0
 obtain⟨b,rfl⟩:=fit_int h1
 exact⟨⟨a,b⟩,rfl⟩
theorem fit_gates(h:Fit Try.prog B (n+3) 22 vs): ∃l:List DGate,vs=[.sl .no 3 (es cGate l)]∧B 48 l.length:=by
 rw[Fit,Try.underlying22]at h
 simp only at h
 obtain⟨l,rfl,hb,h⟩:=h
 obtain⟨l',rfl⟩:=es_all (f:=cGate) l fun x hx=>fit_gate (h x hx)
 rw[cells48]
 exact⟨l',rfl,by simpa using hb⟩
theorem fit_groups(h:Fit Try.prog B (n+3) 23 vs): ∃l:List DGroup,vs=[.sl .no 2 (es cGroup l)]∧B 39 l.length:=by
 rw[Fit,Try.underlying23]at h
 simp only at h
 obtain⟨l,rfl,hb,h⟩:=h
 obtain⟨l',rfl⟩:=es_all (f:=cGroup) l fun x hx=>fit_group (h x hx)
 rw[cells39]
 exact⟨l',rfl,by simpa using hb⟩
def Reach(e:TypeId)(k:Nat):Prop:=k≤maxLen∧k*Try.prog.bytesOf e≤reachBytes
theorem bytes48:Try.prog.bytesOf 48=24:=by kernel_rfl
theorem bytes39:Try.prog.bytesOf 39=16:=by kernel_rfl
theorem fit_trap(h:Fit Try.prog Reach (n+4) 25 vs): ∃t:DTrap,vs=dV t∧ShortD t:=by
 rw[Fit,Try.underlying25]at h
 simp only[FitF]at h
 obtain⟨_,_,rfl,h0,_,_,rfl,h1,_,_,rfl,h2,_,_,rfl,h3,_,_,rfl,h4,rfl⟩:=h
 obtain⟨a,rfl⟩:=fit_int h0
 obtain⟨b,rfl⟩:=fit_int h1
 obtain⟨c,rfl⟩:=fit_int h2
 obtain⟨d,rfl,q1⟩:=fit_gates h3
 obtain⟨e,rfl,q2⟩:=fit_groups h4
 simp only[Reach,bytes48,bytes39,reachBytes]at q1 q2
 exact⟨⟨a,b,c,d,e⟩,rfl,by simp only;omega,by simp only;omega⟩
end Go.Proofs.Ytbcjofkfgpbhmaa

/-
  Doors: reaches, the whole.
-/
import Derived.Test.YtbcjofkfgpbhmaaEq2
set_option linter.unusedSimpArgs false
set_option linter.unusedVariables false
namespace Go.Proofs.Ytbcjofkfgpbhmaa
open Go.Ab
theorem foldB_anyC {α σ:Type}(p:α→Bool)(f:σ→α→σ): ∀(l:List α) (a:σ),∃a',foldB (fun(q:σ×Bool) x=>if p x=true then((f q.1 x,true),false)else((f q.1 x,false),true)) l (a,false)=((a',l.any p),!l.any p)
 |[],a=>⟨a,rfl⟩
 |x::l,a=>by
   simp only[foldB]
   cases hp:p x
   ·obtain⟨a',e⟩:=foldB_anyC p f l (f a x)
    exact⟨a',by simp only[Bool.false_eq_true,if_false,if_true,List.any_cons,hp,Bool.false_or];exact e⟩
   ·exact⟨f a x,by simp[hp]⟩
theorem foldB_not {α σ:Type} {f:σ→α→σ×Bool} {p:α→Bool}: ∀ {l:List α} {a:σ},(∀a x,x∈l→(f a x).2= !p x)→(foldB f l a).2= !l.any p
 |[],a,_=>rfl
 |x::l,a,h=>by
   have hx:=h a x (by simp)
   simp only[foldB,List.any_cons]
   cases hp:p x
   ·rw[hp]at hx
    simp only[Bool.not_false]at hx
    rw[if_pos hx,foldB_not fun a y hy=>h a y (by simp[hy])];rfl
   ·rw[hp]at hx
    simp only[Bool.not_true]at hx
    rw[if_neg (by rw[hx];simp),hx];rfl
theorem reach_fold(t:DTrap)(k o2:Nat)(f)(n:List Int)(K:MemC t):(foldD t o2 n (reachY t k o2 f) (K,false)).1.2=((movesO t o2 n).any fun m=>cO t k o2 (m ++n.drop t.groups.length))∧(foldD t o2 n (reachY t k o2 f) (K,false)).2= !((movesO t o2 n).any fun m=>cO t k o2 (m ++n.drop t.groups.length)):=by
 obtain⟨a',e⟩:=foldB_anyC (fun m=>cO t k o2 (m ++n.drop t.groups.length)) (fun(K:MemC t) m=>f o2 (m ++n.drop t.groups.length) K) (movesO t o2 n) K
 have:foldD t o2 n (reachY t k o2 f) (K,false)=_:=e
 rw[this]
 exact⟨rfl,rfl⟩
def stepC(t:DTrap)(k:Nat)(f:Nat→List Int→MemC t→MemC t)(o:Nat)(n:List Int)(K:MemC t)(c:Nat):MemC t×Bool:=
 ((foldD t (xorN o c) n (reachY t k (xorN o c) f) (K,false)).1.1,(foldD t (xorN o c) n (reachY t k (xorN o c) f) (K,false)).2)
def canK(t:DTrap):Nat→Nat→List Int→MemC t→MemC t
 |0,_,_,K=>K
 |k+1,o,n,K=>if 0<(kvGet K.1 (keyD (k+1) o n)).getD 0 then K else
   if (foldB (stepC t k (canK t k) o n) (cN t) K).2=true then(foldB (stepC t k (canK t k) o n) (cN t) K).1.put (keyD (k+1) o n)else(foldB (stepC t k (canK t k) o n) (cN t) K).1
theorem canK_keep(t:DTrap)(k:Nat): ∀(o:Nat) (n:List Int) (K:MemC t) (key:List Int),(k:Int)<key.headD 0→kvGet (canK t k o n K).1 key=kvGet K.1 key:=by
 induction k with
 |zero=>intro o n K key _;rfl
 |succ k ih=>
   intro o n K key hk
   have hs: ∀(a:MemC t) c,kvGet (stepC t k (canK t k) o n a c).1.1 key=kvGet a.1 key:=fun a c=>by
    refine foldB_inv (I:=fun q:MemC t×Bool=>kvGet q.1.1 key=kvGet a.1 key) (fun q x _ hq=> ?_) rfl
    simp only[reachY]
    split<;>(simp only;rw[ih _ _ _ _ (by omega),hq])
   have hf:kvGet (foldB (stepC t k (canK t k) o n) (cN t) K).1.1 key=kvGet K.1 key:=foldB_inv (I:=fun a:MemC t=>kvGet a.1 key=kvGet K.1 key) (fun a x _ ha=>by rw[hs,ha]) rfl
   simp only[canK]
   split
   ·rfl
   ·split
    ·simp only[Mem.put]
     rw[kvGet_put,if_neg (fun e=>by rw[e]at hk;simp[keyD]at hk),hf]
    ·exact hf
theorem kvIdx_none: ∀ {kvs:List (List Int×Int)} {k:List Int},kvGet kvs k=none→kvIdx kvs k=kvs.length
 |[],_,_=>rfl
 |x::r,k,h=>by
   simp only[kvGet]at h
   split at h
   ·cases h
   ·rename_i hk
    simp only[kvIdx,if_neg hk,kvIdx_none h,List.length_cons]
theorem kvPut_app: ∀ {kvs:List (List Int×Int)} {k:List Int} (v:Int),kvGet kvs k=none→kvPut kvs k v=kvs ++[(k,v)]
 |[],_,_,_=>rfl
 |x::r,k,v,h=>by
   simp only[kvGet]at h
   split at h
   ·cases h
   ·rename_i hk
    simp only[kvPut,if_neg hk,kvPut_app v h,List.cons_append]
theorem kvSet_put {kvs:List (List Int×Int)} {k:List Int}(h:kvGet kvs k=none)(v:Int):kvSet (kvPut kvs k 0) (kvIdx kvs k) v=kvPut kvs k v:=by
 rw[kvPut_app _ h,kvPut_app _ h,kvIdx_none h]
 unfold kvSet
 apply List.ext_getElem?
 intro i
 rw[List.getElem?_modify]
 by_cases hi:kvs.length=i
 ·subst hi;simp
 ·simp only[if_neg hi]
  by_cases hl:i<kvs.length
  ·simp[List.getElem?_append,hl]
  ·rw[List.getElem?_eq_none (by simp;omega),List.getElem?_eq_none (by simp;omega)];rfl
def reachOps:List AOper:=[⟨some 41, .load none (.t 5),none,[],[]⟩,⟨some 42, .load (some 5) (.t 4),none,[],[]⟩,⟨some 43, .mget (some 5) false (.t 41) (.t 42),none,[0,1],[999999]⟩,⟨some 44, .bin .add (.t 43) (.c (i64 1)),none,[2,0,1],[999999]⟩,⟨some 45, .ment (some 5) (.t 41) (.t 42),none,[0,1],[]⟩,⟨some 46, .ext (.t 45) 1,none,[4,0,1],[]⟩,⟨none, .mest (.t 41) (.t 46) (.t 44),none,[3,5,2,4,0,1],[]⟩]
theorem reachOps_pre: ∀(i:Nat) o,reachOps[i]? =some o→ ∀p∈o.pre,p<i:=by
 intro i o h
 match i with
 |0|1|2|3|4|5|6=>simp[reachOps]at h;subst h;simp
 |i+7=>simp[reachOps]at h
structure ReachI(mp:V)(cs:List V)(ix:Int)(p4 p5 p6:V)(done:List Nat)(e:Env):Prop where
 g4:e.get 4=p4
 g5:e.get 5=p5
 g6:e.get 6=p6
 h0:0∈done→e.get 41=mp
 h1:1∈done→e.get 42= .agg cs
 h2:2∈done→e.get 43=i64 0
 h3:3∈done→e.get 44=i64 1
 h4:4∈done→e.get 45= .tup [i64 0,i64 ix]
 h5:5∈done→e.get 46=i64 ix
 c6:6∈done→4∈done
 c26:6∈done→2∈done
set_option maxHeartbeats 4000000 in
theorem reach_region {t:DTrap} {C:List Int} {m:V} {dg lg dm lm L:Nat} {S:List (List Int×Int)→Stk}(G:GameD t C m dg lg dm lm L S)(F:Ab.Loc)(a0 a1 a2 a3 a4:Int)(hF:F.get 80=some (.cell [.mp (.ptr dm lm 0)]))(hF2:F.get 64=some (.cell [i64 a0,i64 a1,i64 a2,i64 a3,i64 a4]))
 (kvs:List (List Int×Int)) (hn0:kvGet kvs [a0,a1,a2,a3,a4]=none) (e0:Env) (x4:e0.get 4= .ptr L 64 0) (x5:e0.get 5= .ptr L 80 0) (x6:e0.get 6= .ptr L 96 0):
 runAny T (Run T) reachOps [6] reachOps [] e0 (F::S kvs)=some ([(6, .ptr L 96 0)],F::S (kvPut kvs [a0,a1,a2,a3,a4] 1)):=by
 have hm: ¬dm=L:=by have:=G.ltm;omega
 have hL:=G.len
 have hidx:=kvIdx_none hn0
 have hset:=kvSet_put hn0 1
 have hlen:(kvPut kvs [a0,a1,a2,a3,a4] 0).length=kvs.length+1:=by rw[kvPut_app _ hn0];simp
 have hnp:kvGet (kvPut kvs [a0,a1,a2,a3,a4] 0) [a0,a1,a2,a3,a4]=some 0:=by rw[kvGet_put,if_pos rfl]
 have f80: ∀K,sget (F::S K) L 80=some (.cell [.mp (.ptr dm lm 0)]):=fun K=>by rw[←hL K,sget_top,hF]
 have f64: ∀K,sget (F::S K) L 64=some (.cell [i64 a0,i64 a1,i64 a2,i64 a3,i64 a4]):=fun K=>by rw[←hL K,sget_top,hF2]
 have fm: ∀K,sget (F::S K) dm lm=some (.mp (some 5) K):=fun K=>by rw[sget_cons,if_neg (by rw[hL];exact hm),G.mem]
 have pm: ∀K K',sput (F::S K) dm lm (.mp (some 5) K')=F::S K':=fun K K'=>by rw[sput_cons,if_neg (by rw[hL];exact hm),G.put]
 rw[hidx]at hset
 generalize hP0:kvPut kvs [a0,a1,a2,a3,a4] 0=P0 at*
 generalize hP1:kvPut kvs [a0,a1,a2,a3,a4] 1=P1 at*
 refine runAny_start (fun done e s=>ReachI (.mp (.ptr dm lm 0)) [i64 a0,i64 a1,i64 a2,i64 a3,i64 a4] (kvs.length:Nat) (.ptr L 64 0) (.ptr L 80 0) (.ptr L 96 0) done e∧s=F::S (if 6∈done then P1 else if 4∈done then P0 else kvs)) _ ?_ ?_ ?_
 ·exact⟨⟨x4,x5,x6,by simp,by simp,by simp,by simp,by simp,by simp,by simp,by simp⟩,by simp⟩
 ·intro done e s ⟨h,hs⟩ hr
  have hall:=ready_all hr reachOps_pre
  simp[Env.only,h.g6,hs,hall 6 (by simp[reachOps])]
 ·intro done e s i o ⟨h,hs⟩ ho hn hp
  match i with
  |0=>
    simp[reachOps]at ho;subst ho
    rw[hs]at*
    refine⟨(41, .mp (.ptr dm lm 0))::e,F::S (if 6∈done then P1 else if 4∈done then P0 else kvs),by simp[h.g5,f80],⟨⟨by simp[h.g4],by simp[h.g5],by simp[h.g6],fun _=>by simp,fun hm=>by have:=h.h1 (by simpa using hm);simpa using this,fun hm=>by have:=h.h2 (by simpa using hm);simpa using this,fun hm=>by have:=h.h3 (by simpa using hm);simpa using this,fun hm=>by have:=h.h4 (by simpa using hm);simpa using this,fun hm=>by have:=h.h5 (by simpa using hm);simpa using this,fun hm=>by have:=h.c6 (by simpa using hm);simp[this],fun hm=>by have:=h.c26 (by simpa using hm);simp[this]⟩,by simp⟩⟩
  |1=>
    simp[reachOps]at ho;subst ho
    rw[hs]at*
    refine⟨(42, .agg [i64 a0,i64 a1,i64 a2,i64 a3,i64 a4])::e,F::S (if 6∈done then P1 else if 4∈done then P0 else kvs),by simp[h.g4,f64],⟨⟨by simp[h.g4],by simp[h.g5],by simp[h.g6],fun hm=>by have:=h.h0 (by simpa using hm);simpa using this,fun _=>by simp,fun hm=>by have:=h.h2 (by simpa using hm);simpa using this,fun hm=>by have:=h.h3 (by simpa using hm);simpa using this,fun hm=>by have:=h.h4 (by simpa using hm);simpa using this,fun hm=>by have:=h.h5 (by simpa using hm);simpa using this,fun hm=>by have:=h.c6 (by simpa using hm);simp[this],fun hm=>by have:=h.c26 (by simpa using hm);simp[this]⟩,by simp⟩⟩
  |2=>
    simp[reachOps]at ho;subst ho
    have m0:=hp 0 (by simp)
    have m1:=hp 1 (by simp)
    have hg0:(kvGet (if 6∈done then P1 else if 4∈done then P0 else kvs) [a0,a1,a2,a3,a4]).getD 0=0:=by
     have n6:6∉done:=fun h6=>hn (h.c26 h6)
     rw[if_neg n6]
     split
     ·rw[hnp];rfl
     ·rw[hn0];rfl
    rw[hs]at*
    refine⟨(43,i64 0)::e,F::S (if 6∈done then P1 else if 4∈done then P0 else kvs),by simp[h.h0 m0,h.h1 m1,fm,hg0],⟨⟨by simp[h.g4],by simp[h.g5],by simp[h.g6],fun hm=>by have:=h.h0 (by simpa using hm);simpa using this,fun hm=>by have:=h.h1 (by simpa using hm);simpa using this,fun _=>by simp,fun hm=>by have:=h.h3 (by simpa using hm);simpa using this,fun hm=>by have:=h.h4 (by simpa using hm);simpa using this,fun hm=>by have:=h.h5 (by simpa using hm);simpa using this,fun hm=>by have:=h.c6 (by simpa using hm);simp[this],fun hm=>by have:=h.c26 (by simpa using hm);simp[this]⟩,by simp⟩⟩
  |3=>
    simp[reachOps]at ho;subst ho
    have m0:=hp 0 (by simp)
    have m1:=hp 1 (by simp)
    have m2:=hp 2 (by simp)
    refine⟨(44,i64 1)::e,s,by simp[h.h2 m2,show IntKind.i64.wrap 1=1 by decide],⟨⟨by simp[h.g4],by simp[h.g5],by simp[h.g6],fun hm=>by have:=h.h0 (by simpa using hm);simpa using this,fun hm=>by have:=h.h1 (by simpa using hm);simpa using this,fun hm=>by have:=h.h2 (by simpa using hm);simpa using this,fun _=>by simp,fun hm=>by have:=h.h4 (by simpa using hm);simpa using this,fun hm=>by have:=h.h5 (by simpa using hm);simpa using this,fun hm=>by have:=h.c6 (by simpa using hm);simp[this],fun hm=>by have:=h.c26 (by simpa using hm);simp[this]⟩,by simpa using hs⟩⟩
  |4=>
    simp[reachOps]at ho;subst ho
    have m0:=hp 0 (by simp)
    have m1:=hp 1 (by simp)
    have n6:6∉done:=fun h6=>hn (h.c6 h6)
    rw[if_neg n6,if_neg hn]at hs
    subst hs
    refine⟨(45, .tup [i64 0,i64 (kvs.length:Nat)])::e,F::S P0,by simp[h.h0 m0,h.h1 m1,fm,pm,hn0,hidx,hP0],⟨⟨by simp[h.g4],by simp[h.g5],by simp[h.g6],fun hm=>by have:=h.h0 (by simpa using hm);simpa using this,fun hm=>by have:=h.h1 (by simpa using hm);simpa using this,fun hm=>by have:=h.h2 (by simpa using hm);simpa using this,fun hm=>by have:=h.h3 (by simpa using hm);simpa using this,fun _=>by simp,fun hm=>by have:=h.h5 (by simpa using hm);simpa using this,fun hm=>by have:=h.c6 (by simpa using hm);simp[this],fun hm=>by have:=h.c26 (by simpa using hm);simp[this]⟩,by simp[n6]⟩⟩
  |5=>
    simp[reachOps]at ho;subst ho
    have m0:=hp 0 (by simp)
    have m1:=hp 1 (by simp)
    have m4:=hp 4 (by simp)
    refine⟨(46,i64 (kvs.length:Nat))::e,s,by simp[h.h4 m4],⟨⟨by simp[h.g4],by simp[h.g5],by simp[h.g6],fun hm=>by have:=h.h0 (by simpa using hm);simpa using this,fun hm=>by have:=h.h1 (by simpa using hm);simpa using this,fun hm=>by have:=h.h2 (by simpa using hm);simpa using this,fun hm=>by have:=h.h3 (by simpa using hm);simpa using this,fun hm=>by have:=h.h4 (by simpa using hm);simpa using this,fun _=>by simp,fun hm=>by have:=h.c6 (by simpa using hm);simp[this],fun hm=>by have:=h.c26 (by simpa using hm);simp[this]⟩,by simpa using hs⟩⟩
  |6=>
    simp[reachOps]at ho;subst ho
    have m0:=hp 0 (by simp)
    have m1:=hp 1 (by simp)
    have m2:=hp 2 (by simp)
    have m3:=hp 3 (by simp)
    have m4:=hp 4 (by simp)
    have m5:=hp 5 (by simp)
    rw[if_neg hn,if_pos m4]at hs
    subst hs
    refine⟨e,F::S P1,by simp[h.h0 m0,h.h5 m5,h.h3 m3,fm,pm,hlen,hset,show(kvs.length:Int)<(kvs.length:Int)+1 by omega],⟨⟨by simp[h.g4],by simp[h.g5],by simp[h.g6],fun hm=>by have:=h.h0 (by simpa using hm);simpa using this,fun hm=>by have:=h.h1 (by simpa using hm);simpa using this,fun hm=>by have:=h.h2 (by simpa using hm);simpa using this,fun hm=>by have:=h.h3 (by simpa using hm);simpa using this,fun hm=>by have:=h.h4 (by simpa using hm);simpa using this,fun hm=>by have:=h.h5 (by simpa using hm);simpa using this,fun hm=>by simp[m4],fun hm=>by simp[m2]⟩,by simp⟩⟩
  |i+7=>simp[reachOps]at ho
end Go.Proofs.Ytbcjofkfgpbhmaa

/-
  Doors: reaches, the end.
-/
namespace Go.Proofs.Ytbcjofkfgpbhmaa
open Go.Ab
theorem caught_take(n:Nat): ∀(f p:List Int) (k:Nat),f.length≤k→caughtS n f (p.take k)=caughtS n f p:=by
 intro f
 induction f with
 |nil=>intro p k _;simp[caughtS]
 |cons x f ih=>
   intro p k hk
   cases p with
   |nil=>simp
   |cons y p=>
     cases k with
     |zero=>simp at hk
     |succ k=>simp only[List.take_succ_cons,caughtS,ih p k (by simpa using hk)]
abbrev RetG(L:Nat):= {p:Env×Ab.Loc//p.1.get 6= .ptr L 96 0∧p.2.get 96=some (.cell [.bool true])}
instance (L:Nat):Inhabited (RetG L):=⟨⟨([(6, .ptr L 96 0)],[(96, .cell [.bool true])]),rfl,rfl⟩⟩
set_option maxHeartbeats 8000000 in
theorem e_reaches {t:DTrap}(h:DoorOk t)(k:Nat):k≤4→CanD t (chB t) k (canK t k):=by
 induction k with
 |zero=>
   intro _ m dg lg dm lm L S G o n K lab ho hn
   obtain⟨x0,x1,x2,rfl⟩: ∃x0 x1 x2,n=[x0,x1,x2]:=by
    match n,hn.1 with
    |[x0,x1,x2],_=>exact⟨x0,x1,x2,rfl⟩
   have hL:=G.len K.1
   have hd:=G.ltg
   have hc:=fun lab=>e_caught t h.ol h.ch (fun g hg=>(h.groups g hg).2) (chB t) m x0 x1 x2 dg lg ([(48, .cell [.ptr dg lg 0]),(64, .cell [i64 0,i64 (o:Nat),i64 x0,i64 x1,i64 x2]),(80, .cell [.mp (.ptr dm lm 0)]),(96, .cell [.bool false])]::S K.1) (by simp only[List.length_cons];omega) (by rw[sget_cons,if_neg (by omega),G.game]) lab
   have e:cO t 0 o [x0,x1,x2]=decide (0<caughtS t.chambers.toNat (fishL t) [x0,x1,x2]):=by
    unfold cO
    simp only[canG]
    rw[caught_take _ _ _ _ (by simp[fishL])]
   rw[e]
   simp only[canK]
   generalize caughtS t.chambers.toNat (fishL t) [x0,x1,x2]=w at*
   generalize S K.1=X at*
   subst hL
   simp only[sceneL,List.map_cons,List.map_nil,Int.natCast_zero]
   change den T _ [_, .agg [i64 0,_,_,_,_],_] _ _=_
   rw[den_fn t73 _ _ _ rfl]
   simp only[b73]
   simp (maxSteps:=1000000) (disch:=first|omega|assumption|decide +kernel|(simp;done)|(simp;omega)|fail) [hc]
 |succ k ih0=>
   intro hk m dg lg dm lm L S G o n K lab ho hn
   have ih:= @ih0 (by omega)
   obtain⟨x0,x1,x2,rfl⟩: ∃x0 x1 x2,n=[x0,x1,x2]:=by
    match n,hn.1 with
    |[x0,x1,x2],_=>exact⟨x0,x1,x2,rfl⟩
   have hL:=G.len
   have hd:=G.ltg
   have hd2:=G.ltm
   have e1: ¬dg=L:=by omega
   have e2: ¬dm=L:=by omega
   have hga:=G.game
   have hme:=G.mem
   have hpu:=G.put
   have hw:=cKey_key t (k+1) o (n:=[x0,x1,x2]) rfl
   have hT:(((k+1:Nat):Int)=0)=False:=by simp;omega
   have hkk:((k+1:Nat):Int)-1=(k:Nat):=by omega
   have hsc:=cO_succ h k o hn
   have hcl:(chB t).length=(cN t).length:=by simp[chB,natI]
   have hlen:(cN t).length≤32:=by rw[←hcl];exact(chB_len h).2.2
   have key:=loop_list_e (T:=Go.Proofs.Ytbcjofkfgpbhmaa.T) (γ:=RetG L) (live:=[3,4,5,6,25,26,27]) (keep:=[48,64,80,96,256]) (b:=d73l0) (cN t) (fun _ (_:MemC t)=>True)
    (fun j _=>[(3, .ptr L 48 0),(4, .ptr L 64 0),(5, .ptr L 80 0),(6, .ptr L 96 0),(25, .sl .no 1 (es cInt (chB t))),(26,i64 (chB t).length),(27,i64 (j:Nat))])
    (fun _ K=>[(48, .cell [.ptr dg lg 0]),(64, .cell [i64 ((k+1:Nat):Int),i64 (o:Nat),i64 x0,i64 x1,i64 x2]),(80, .cell [.mp (.ptr dm lm 0)]),(96, .cell [.bool false])]::S K.1)
    (stepC t k (canK t k) o [x0,x1,x2])
    (fun g K=>(.ret,g.1.1,g.1.2::S K.1))
    (fun K=>(.exit 0,[(3, .ptr L 48 0),(4, .ptr L 64 0),(5, .ptr L 80 0),(6, .ptr L 96 0),(25, .sl .no 1 (es cInt (chB t))),(26,i64 (chB t).length),(27,i64 (cN t).length),(28, .bool false)],[(48, .cell [.ptr dg lg 0]),(64, .cell [i64 ((k+1:Nat):Int),i64 (o:Nat),i64 x0,i64 x1,i64 x2]),(80, .cell [.mp (.ptr dm lm 0)]),(96, .cell [.bool false])]::S K.1))
    (by simp) (by simp) ?_ ?_ K trivial [(3, .ptr L 48 0),(4, .ptr L 64 0),(5, .ptr L 80 0),(6, .ptr L 96 0),(25, .sl .no 1 (es cInt (chB t))),(26,i64 (chB t).length),(27,i64 0)] ([(48, .cell [.ptr dg lg 0]),(64, .cell [i64 ((k+1:Nat):Int),i64 (o:Nat),i64 x0,i64 x1,i64 x2]),(80, .cell [.mp (.ptr dm lm 0)]),(96, .cell [.bool false])]::S K.1) (by simp[hL,e1,e2]) (by simp[hL,e1,e2])
   ·obtain⟨g,hg⟩:=key
    change Run Go.Proofs.Ytbcjofkfgpbhmaa.T b73l0 _ _=_ at hg
    have hany:(foldB (stepC t k (canK t k) o [x0,x1,x2]) (cN t) K).2= !cO t (k+1) o [x0,x1,x2]:=by
     rw[hsc]
     exact foldB_not fun a c _=>(reach_fold t k (xorN o c) (canK t k) [x0,x1,x2] a).2
    have hkeep:kvGet (foldB (stepC t k (canK t k) o [x0,x1,x2]) (cN t) K).1.1 (keyD (k+1) o [x0,x1,x2])=kvGet K.1 (keyD (k+1) o [x0,x1,x2]):=by
     refine foldB_inv (I:=fun a:MemC t=>kvGet a.1 (keyD (k+1) o [x0,x1,x2])=kvGet K.1 (keyD (k+1) o [x0,x1,x2])) (fun a c _ ha=> ?_) rfl
     rw[←ha]
     refine foldB_inv (I:=fun q:MemC t×Bool=>kvGet q.1.1 (keyD (k+1) o [x0,x1,x2])=kvGet a.1 (keyD (k+1) o [x0,x1,x2])) (fun q x _ hq=> ?_) rfl
     simp only[reachY]
     split<;>(simp only;rw[canK_keep _ _ _ _ _ _ (by simp[keyD];omega),hq])
    have hr: ∀v,kvGet K.1 (keyD (k+1) o [x0,x1,x2])=some v→v=if cO t (k+1) o [x0,x1,x2]=true then 0 else 1:=fun v hv=>by rw[←hw];exact K.2 _ _ hv
    simp only[canK]
    rw[hany]at hg⊢
    obtain⟨⟨ge,gl⟩,hg1,hg2⟩:=g
    simp only at hg1 hg2 hg
    generalize foldB (stepC t k (canK t k) o [x0,x1,x2]) (cN t) K=Q at*
    obtain⟨K2,bb⟩:=Q
    simp only at hkeep hg hany⊢
    simp only[keyD]at hr hkeep⊢
    by_cases hpos:0<(kvGet K.1 [((k+1:Nat):Int),(o:Nat),x0,x1,x2]).getD 0
    ·have hco:cO t (k+1) o [x0,x1,x2]=false:=by
      cases hv:kvGet K.1 [((k+1:Nat):Int),(o:Nat),x0,x1,x2]with
      |none=>rw[hv]at hpos;simp at hpos
      |some v=>
        have:=hr v hv
        rw[hv]at hpos
        simp only[Option.getD_some]at hpos
        cases hc:cO t (k+1) o [x0,x1,x2]
        ·rfl
        ·rw[hc,if_pos rfl]at this;omega
     rw[if_pos hpos,hco]
     simp only[sceneL,List.map_cons,List.map_nil]
     generalize hTT:((k+1:Nat):Int)=T1 at*
     rw[den_fn t73 _ _ _ rfl]
     simp only[b73]
     simp (maxSteps:=1000000) (disch:=first|omega|assumption|decide +kernel|(simp;done)|(simp;omega)|fail) [hL,hga,hme,e1,e2,hT,hpos]
    ·rw[if_neg hpos]
     simp only[sceneL,List.map_cons,List.map_nil]
     cases hco:cO t (k+1) o [x0,x1,x2]
     ·have hnone:kvGet K2.1 [((k+1:Nat):Int),(o:Nat),x0,x1,x2]=none:=by
       rw[hkeep]
       cases hv:kvGet K.1 [((k+1:Nat):Int),(o:Nat),x0,x1,x2]with
       |none=>rfl
       |some v=>
         have:=hr v hv
         rw[hco]at this
         rw[hv]at hpos
         simp at this hpos
         omega
      rw[hco]at hg
      simp only[Bool.not_false,if_true]at hg⊢
      have hput:(K2.put [((k+1:Nat):Int),(o:Nat),x0,x1,x2]).1=kvPut K2.1 [((k+1:Nat):Int),(o:Nat),x0,x1,x2] 1:=by
       show kvPut _ _ (cKey t (keyD (k+1) o [x0,x1,x2]))=_
       rw[hw,hco];rfl
      rw[hput]
      have hreg:=reach_region G [(48, .cell [.ptr dg lg 0]),(64, .cell [i64 ((k+1:Nat):Int),i64 (o:Nat),i64 x0,i64 x1,i64 x2]),(80, .cell [.mp (.ptr dm lm 0)]),(96, .cell [.bool false])] ((k+1:Nat):Int) (o:Nat) x0 x1 x2 rfl rfl K2.1 hnone [(3, .ptr L 48 0),(4, .ptr L 64 0),(5, .ptr L 80 0),(6, .ptr L 96 0),(25, .sl .no 1 (es cInt (chB t))),(26,i64 (chB t).length),(27,i64 (cN t).length),(28, .bool false)] rfl rfl rfl
      simp only[reachOps]at hreg
      generalize hTT:((k+1:Nat):Int)=T1 at*
      generalize chB t=C at*
      rw[den_fn t73 _ _ _ rfl]
      simp only[b73]
      simp (maxSteps:=1000000) (disch:=first|omega|assumption|decide +kernel|(simp;done)|(simp;omega)|fail) [run_each2,hL,hga,hme,e1,e2,hT,hpos,hg,hreg]
     ·rw[hco]at hg
      simp only[Bool.not_true,Bool.false_eq_true,if_false]at hg⊢
      generalize hTT:((k+1:Nat):Int)=T1 at*
      generalize chB t=C at*
      rw[den_fn t73 _ _ _ rfl]
      simp only[b73]
      simp (maxSteps:=1000000) (disch:=first|omega|assumption|decide +kernel|(simp;done)|(simp;omega)|fail) [hL,hga,hme,e1,e2,hT,hpos,hg,hg1,hg2]
   ·intro j K2 hj _
    have hj2:(j:Int)<(chB t).length:=by omega
    have hj3:j<(chB t).length:=by omega
    have hcj:(chB t)[j]=((cN t)[j]:Int):=by simp[chB,natI]
    have hc:=cN_lt h (List.getElem_mem hj)
    generalize (cN t)[j]=c at*
    have ho2:xorN o c<32:=Nat.xor_lt_two_pow (n:=5) ho hc
    have y:=reach_yield t (chB t) k (canK t k) ih G j ((k+1:Nat):Int) (((k+1:Nat):Int)-1) hkk o (xorN o c) ho2 [x0,x1,x2]
    obtain⟨n',hn',hl⟩:=e_loopD t h ho2 hn y (K2,false) rfl
    have hm:=fun(loc:Ab.Loc) lab=>e_moves ((k+1:Nat):Int) o c (by omega) x0 x1 x2 ho hc dg lg lab loc (S K2.1) (by rw[hL];omega)
    obtain⟨r1,r2⟩:=reach_fold t k (xorN o c) (canK t k) [x0,x1,x2] K2
    unfold stepC
    generalize foldD t (xorN o c) [x0,x1,x2] (reachY t k (xorN o c) (canK t k)) (K2,false)=Q at*
    obtain⟨⟨K3,fb⟩,bb⟩:=Q
    simp only at r1 r2 hl⊢
    rw[←r1]at r2
    subst r2
    clear r1 y ih ih0
    simp only[hL]at hm
    simp only[reachSt,reachF,reachE,sceneL,List.map_cons,List.map_nil,Nat.reduceAdd]at hl hm
    generalize xorN o c=o2 at*
    generalize hTT:((k+1:Nat):Int)=T1 at*
    generalize chB t=C at*
    cases fb
    ·refine⟨fun _=>⟨?_,trivial⟩,fun hb=>by simp at hb⟩
     simp only[Bool.false_eq_true,if_false]at hl
     simp (maxSteps:=1000000) (disch:=first|omega|assumption|decide +kernel|(simp;done)|(simp;omega)|fail) [hj,hj2,hj3,hcj,hL,hga,e1,e2,hm,hl,wk j (by omega)]
    ·refine⟨fun hb=>by simp at hb,fun _=>⟨⟨([(3, .ptr L 48 0),(4, .ptr L 64 0),(5, .ptr L 80 0),(6, .ptr L 96 0),(25, .sl .no 1 (es cInt C)),(26,i64 C.length),(27,i64 (j:Nat)),(34, .fn 96 [] [.ptr L 544 0, .ptr L 1544 0, .ptr L 2544 0])],
      [(48, .cell [.ptr dg lg 0]),(64, .cell [i64 T1,i64 (o:Nat),i64 x0,i64 x1,i64 x2]),(80, .cell [.mp (.ptr dm lm 0)]),(96, .cell [.bool true]),(544, .cell [.ptr dg lg 0]),(1544, .cell (i64 (T1-1)::i64 (o2:Nat)::n'.map i64)),(2544, .cell [i64 T1,i64 (o:Nat),i64 x0,i64 x1,i64 x2]),
        (18695, .loop [35] b73l1 b73l2 [] .exhausted (some .ret))]),rfl,rfl⟩,?_⟩⟩
     simp only[Bool.false_eq_true,if_false,if_true]at hl
     simp (maxSteps:=1000000) (disch:=first|omega|assumption|decide +kernel|(simp;done)|(simp;omega)|fail) [hj,hj2,hj3,hcj,hL,hga,e1,e2,hm,hl,wk j (by omega)]
   ·intro K2 _
    simp[hcl]
end Go.Proofs.Ytbcjofkfgpbhmaa

/-
  Doors: Catch.
-/
namespace Go.Proofs.Ytbcjofkfgpbhmaa
open Go.Ab
theorem GameD.topM {t C} {s:Stk} {m:V} {lg lm:Nat} {X:List (List Int×Int)→Ab.Loc}(hg: ∀K,(X K).get lg=some (.cell (gameV t C m)))(hm: ∀K,(X K).get lm=some (.mp (some 5) K))(hp: ∀K K',(X K).put lm (.mp (some 5) K')=X K'):
 GameD t C m s.length lg s.length lm (s.length+1) (fun K=>X K::s) where
 len:=fun K=>by simp
 ltg:=by omega
 ltm:=by omega
 game:=fun K=>by rw[sget_top,hg]
 mem:=fun K=>by rw[sget_top,hm]
 put:=fun K K'=>by rw[sput_top,hp]
def aloneT(t:DTrap):DTrap:= {t with groups:=[⟨0,1⟩]}
theorem alone_ok {t:DTrap}(h:DoorOk t):DoorOk (aloneT t) where
 ch:=h.ch
 tu:=h.tu
 ha:=h.ha
 gl:=h.gl
 ol:=by simp[aloneT]
 gates:=h.gates
 groups:=fun g hg=>by
  simp only[aloneT,List.mem_singleton]at hg
  subst hg
  have:=h.ch
  have e:(aloneT t).chambers=t.chambers:=rfl
  rw[e]
  simp only
  omega
def oneN(p:Int):List Int:=[p,0,0]
def catchV(t:DTrap)(p:Int):Int:=if wO (aloneT t) t.turns.toNat (gN t) (oneN p)=1 then 1 else if cO (aloneT t) t.turns.toNat (gN t) (oneN p)=false then 2 else 3
def posOf(t:DTrap)(g:Int):Int:=(posL t).getD g.toNat 0
def catchR(t:DTrap)(g:Int):Int×Int:=if doorB t=true then(if wiB g 0 (t.groups.length-1)=true then(catchV t (posOf t g),0)else(0,1))else(0,30)
abbrev catchX(t:DTrap)(d:Nat)(p:Int)(K:List (List Int×Int)):Ab.Loc:=[(32, .cell (dV t)),(320, .cell (gameV t (chB t) (.mp (.ptr d 1320 0)))),(1320, .mp (some 5) []),(112, .cell (sceneV t.turns (gN t:Nat) p 0 0)),(464, .cell (gameV (aloneT t) (chB t) (.csl (.ptr d 1464 0) 0))),(1464, .mp (some 5) K),(160, .cell (scene0 t))]
set_option maxHeartbeats 8000000 in
theorem e_Catch(t:DTrap)(hs:ShortD t)(g:Int)(lab s):den T 34 [.agg (dV t),i64 g] lab s=some (.tup [i64 (catchR t g).1,i64 (catchR t g).2],s):=by
 have hgr:=hs.groups
 have w1:IntKind.i64.wrap ((t.groups.length:Int)-1)=(t.groups.length:Int)-1:=wi _ (by omega) (by omega)
 unfold catchR
 cases h:doorB t
 ·have hb:=fun b lab loc s=>e_begin_bad t hs h b lab loc s
  rw[den_fn t34 _ _ _ rfl]
  simp only[b34]
  simp (maxSteps:=1000000) (disch:=first|omega|assumption|decide +kernel|(simp;done)|(simp;omega)|fail) [run_drawnK,orSlow_none,hb,w1]
 ·have ho:=doorB_iff.1 h
  have htu:=ho.tu
  cases hw:wiB g 0 (t.groups.length-1)
  ·have hb:=fun lab loc s=>e_begin_arg t ho lab loc s
   rw[den_fn t34 _ _ _ rfl]
   simp only[b34]
   simp (maxSteps:=1000000) (disch:=first|omega|assumption|decide +kernel|(simp;done)|(simp;omega)|fail) [run_drawnK,orSlow_none,hb,w1,hw]
  ·have hgb:0≤g∧g≤t.groups.length-1:=by simpa [wiB]using hw
   have h3:=ho.ol
   have hb:=fun lab loc k0 k1=>e_begin t ho lab loc s k0 k1
   obtain⟨i,rfl⟩: ∃i:Nat,g=i:=⟨g.toNat,by omega⟩
   have hi:i<t.groups.length:=by omega
   have hp:posOf t (i:Nat)=at0 t i:=by
    rw[at0_get hi];simp[posOf,posL,hi]
   have ha:=alone_ok ho
   have hin:InN (aloneT t) (oneN (at0 t i)):=by
    refine⟨rfl,fun j hj=> ?_⟩
    have:j=0:=by simp[aloneT]at hj;omega
    subst this
    have:=(ho.groups _ (List.getElem_mem hi)).1
    rw[at0_get hi]
    exact this
   have hT:((t.turns.toNat:Nat):Int)=t.turns:=by omega
   have hv:=fun lab=>e_value ha t.turns.toNat (by omega) (GameD.topM (t:=aloneT t) (s:=s) (lg:=464) (lm:=1464) (X:=catchX t s.length (at0 t i)) (fun K=>rfl) (fun K=>rfl) (fun K K'=>rfl)) rfl (gN t) (oneN (at0 t i)) Mem.nil lab (gN_lt ho) hin
   have hr:=fun(K0:List (List Int×Int)) lab=>e_reaches ha t.turns.toNat (by omega) (GameD.topM (t:=aloneT t) (s:=s) (lg:=464) (lm:=848) (m:= .csl (.ptr s.length 1464 0) 0) (X:=fun K=>catchX t s.length (at0 t i) K0 ++[(848, .mp (some 5) K)]) (fun K=>rfl) (fun K=>rfl) (fun K K'=>rfl)) (gN t) (oneN (at0 t i)) Mem.nil lab (gN_lt ho) hin
   rw[hT]at hv hr
   simp only[Bool.false_eq_true,if_true,hp,catchV]
   have hk: ∀(a:List (List Int×Int)→Stk),True:=fun _=>trivial
   generalize wO (aloneT t) t.turns.toNat (gN t) (oneN (at0 t i))=w at*
   generalize cO (aloneT t) t.turns.toNat (gN t) (oneN (at0 t i))=b at*
   generalize valK (aloneT t) _ _ _ _=K1 at*
   generalize canK (aloneT t) _ _ _ _=K2 at*
   simp only[catchX,gN,scene0,sceneV,sceneL,oneN,List.map_cons,List.map_nil,List.cons_append,List.nil_append,Mem.nil_val,gameV,gcap,gmp,aloneT,show es cGroup [(⟨0,1⟩:DGroup)]=[[i64 0,i64 1]]from rfl]at hb hv hr
   generalize gateBits t.gates=o at*
   generalize chB t=C at*
   have hil:(i:Int)<3:=by omega
   have hwa: ∀z:Int,z=(i:Int)→wiB z 0 ((t.groups.length:Int)-1)=true:=fun z e=>by rw[e];exact hw
   by_cases hw1:w=1
   ·obtain rfl|rfl|rfl:i=0∨i=1∨i=2:=by omega
    all_goals
     (rw[den_fn t34 _ _ _ rfl]
      simp only[b34]
      simp (maxSteps:=1000000) (disch:=first|omega|assumption|decide +kernel|(simp;done)|(simp;omega)|fail) [run_drawnK,orSlow_none,w1,hwa,hb,hv,hr,hw1])
   ·cases b<;>(obtain rfl|rfl|rfl:i=0∨i=1∨i=2:=by omega)
    all_goals
     (rw[den_fn t34 _ _ _ rfl]
      simp only[b34]
      simp (maxSteps:=1000000) (disch:=first|omega|assumption|decide +kernel|(simp;done)|(simp;omega)|fail) [run_drawnK,orSlow_none,w1,hwa,hb,hv,hr,hw1])
end Go.Proofs.Ytbcjofkfgpbhmaa

/-
  Doors, the law's helpers: Copy, Turning, ready, all, worth, after.
-/
namespace Go.Proofs.Ytbcjofkfgpbhmaa
open Go.Ab
theorem e_CopyD(t:DTrap)(hs:ShortD t)(lab)(loc:Ab.Loc)(s:Stk)(k0:loc.get lab=none)(k1:loc.get (lab+1000)=none):
 den T 32 [.agg (dV t)] lab (loc::s)=some (.agg [i64 t.chambers,i64 t.turns,i64 t.hands, .asl s.length lab 3 t.gates.length 0 t.gates.length, .asl s.length (lab+1000) 2 t.groups.length 0 t.groups.length],
  (loc.put lab (.arr 3 (es cGate t.gates))).put (lab+1000) (.arr 2 (es cGroup t.groups))::s):=by
 have hg:=hs.gates
 have ho:=hs.groups
 rw[den_fn t32 _ _ _ rfl]
 simp only[b32]
 simp (maxSteps:=1000000) (disch:=first|omega|assumption|decide +kernel|(simp;done)|(simp;omega)|fail) [appmD_es,run_drawnK,orSlow_none,k0,k1]
theorem e_Huge(t:DTrap)(lab s):den T 47 [.agg (dV t)] lab s=some (.bool (decide (40<t.gates.length)||decide (40<t.groups.length)),s):=by
 rw[den_fn t47 _ _ _ rfl]
 simp only[b47]
 by_cases h1:40<t.gates.length
 ·have h1':(40:Int)<t.gates.length:=by omega
  simp (maxSteps:=1000000) (disch:=first|omega|assumption|decide +kernel|(simp;done)|(simp;omega)|fail) [h1,h1']
 ·have h1': ¬(40:Int)<t.gates.length:=by omega
  by_cases h2:40<t.groups.length
  ·have h2':(40:Int)<t.groups.length:=by omega
   simp (maxSteps:=1000000) (disch:=first|omega|assumption|decide +kernel|(simp;done)|(simp;omega)|fail) [h1,h1',h2,h2']
  ·have h2': ¬(40:Int)<t.groups.length:=by omega
   simp (maxSteps:=1000000) (disch:=first|omega|assumption|decide +kernel|(simp;done)|(simp;omega)|fail) [h1,h1',h2,h2']
def hugeB(t:DTrap):Bool:=decide (40<t.gates.length)||decide (40<t.groups.length)
def farD(t:DTrap):Bool:=hugeB t||(decide (4<t.gates.length)||decide (3<t.gates.length)&&decide (2<t.groups.length))&&doorB t
set_option maxHeartbeats 2000000 in
theorem e_Far(t:DTrap)(hs:ShortD t)(lab s):den T 35 [.agg (dV t)] lab s=some (.bool (farD t),s):=by
 have hh:=fun lab s=>e_Huge t lab s
 have hc:=fun lab s=>e_CheckR t hs lab s
 unfold farD
 change∀lab s,_=some (V.bool (hugeB t),s)at hh
 cases h0:hugeB t<;>rw[h0]at hh
 ·by_cases h1:4<t.gates.length
  ·have h1':(4:Int)<t.gates.length:=by omega
   rw[den_fn t35 _ _ _ rfl]
   simp only[b35]
   cases hd:doorB t<;>simp (maxSteps:=1000000) (disch:=first|omega|assumption|decide +kernel|(simp;done)|(simp;omega)|fail) [hh,hc,h1,h1',hd]
  ·have h1': ¬(4:Int)<t.gates.length:=by omega
   by_cases h2:3<t.gates.length
   ·have h2':(3:Int)<t.gates.length:=by omega
    by_cases h3:2<t.groups.length
    ·have h3':(2:Int)<t.groups.length:=by omega
     rw[den_fn t35 _ _ _ rfl]
     simp only[b35]
     cases hd:doorB t<;>simp (maxSteps:=1000000) (disch:=first|omega|assumption|decide +kernel|(simp;done)|(simp;omega)|fail) [hh,hc,h1,h1',h2,h2',h3,h3',hd]
    ·have h3': ¬(2:Int)<t.groups.length:=by omega
     rw[den_fn t35 _ _ _ rfl]
     simp only[b35]
     simp (maxSteps:=1000000) (disch:=first|omega|assumption|decide +kernel|(simp;done)|(simp;omega)|fail) [hh,hc,h1,h1',h2,h2',h3,h3']
   ·have h2': ¬(3:Int)<t.gates.length:=by omega
    rw[den_fn t35 _ _ _ rfl]
    simp only[b35]
    simp (maxSteps:=1000000) (disch:=first|omega|assumption|decide +kernel|(simp;done)|(simp;omega)|fail) [hh,hc,h1,h1',h2,h2']
 ·rw[den_fn t35 _ _ _ rfl]
  simp only[b35]
  simp (maxSteps:=1000000) (disch:=first|omega|assumption|decide +kernel|(simp;done)|(simp;omega)|fail) [hh]
def readyD(t:DTrap):Bool:= !farD t&&doorB t
theorem e_readyD(t:DTrap)(hs:ShortD t)(lab s):den T 16 [.agg (dV t)] lab s=some (.bool (readyD t),s):=by
 have hh:=fun lab s=>e_Far t hs lab s
 have hc:=fun lab s=>e_CheckR t hs lab s
 unfold readyD
 rw[den_fn t16 _ _ _ rfl]
 simp only[b16]
 cases h0:farD t<;>cases hd:doorB t<;>simp (maxSteps:=1000000) (disch:=first|omega|assumption|decide +kernel|(simp;done)|(simp;omega)|fail) [hh,hc,h0,hd]
theorem readyD_ok {t:DTrap}(h:readyD t=true):DoorOk t:=by
 simp only[readyD,Bool.and_eq_true]at h
 exact doorB_iff.1 h.2
set_option maxHeartbeats 1000000 in
theorem e_all_l(t:DTrap)(h:DoorOk t)(s:Stk):
 Run T b65l0 [(1, .ptr s.length 16 0),(3,i64 0),(4,i64 0)] ([(16, .cell (dV t))]::s)=some (.exit 0,[(1, .ptr s.length 16 0),(3,i64 ((t.groups).foldl ((fun a (g:DGroup)=>a+g.fish)) (0:Int))),(4,i64 ((t.groups).length:Nat)),(9, .bool false)],[(16, .cell (dV t))]::s):=by
 have key:=loop_fold (T:=T) (live:=[1,3,4]) (keep:=[16]) (b:=d65l0) (t.groups) (fun(k:Nat) (a:Int)=>0≤a∧a≤99*k) ((fun a (g:DGroup)=>a+g.fish)) (fun k (a:Int)=>[(1, .ptr s.length 16 0),(3,i64 a),(4,i64 (k:Nat))]) (fun k (a:Int)=>[(16, .cell (dV t))]::s) (fun(a:Int)=>(.exit 0,[(1, .ptr s.length 16 0),(3,i64 a),(4,i64 ((t.groups).length:Nat)),(9, .bool false)],[(16, .cell (dV t))]::s)) (by simp) ?_ ?_ ?_ (0:Int) (by simp) [(1, .ptr s.length 16 0),(3,i64 0),(4,i64 0)] ([(16, .cell (dV t))]::s) (by simp) (by simp)
 ·exact key
 ·intro k a hk hi
  have hl:=h.ol
  have hk2:(k:Int)<t.groups.length:=by omega
  have hf:=h.groups _ (List.getElem_mem hk)
  generalize hG:t.groups[k]=G at*
  have w2:IntKind.i64.wrap (a+G.fish)=a+G.fish:=wi _ (by omega) (by omega)
  simp (maxSteps:=1000000) (disch:=first|omega|assumption|decide +kernel|(simp;done)|(simp;omega)|fail) [run_drawnK,orSlow_none,hk,hk2,hG,w2,wk k (by omega)]
 ·intro k a hk hi
  have hf:=h.groups _ (List.getElem_mem hk)
  omega
 ·intro a hi
  simp
theorem e_all(t:DTrap)(h:DoorOk t)(lab s):den T 65 [.agg (dV t)] lab s=some (i64 (sumF (fishL t)),s):=by
 have hl:=e_all_l t h s
 have e:t.groups.foldl (fun a (g:DGroup)=>a+g.fish) 0=sumF (fishL t):=by
  have: ∀(l:List DGroup) (a:Int),l.foldl (fun a (g:DGroup)=>a+g.fish) a=a+sumF (l.map (·.fish)):=by
   intro l
   induction l with
   |nil=>intro a;simp[sumF]
   |cons x r ih=>intro a;rw[List.foldl_cons,ih];simp only[List.map_cons,sumF,List.foldr_cons];omega
  rw[this,Int.zero_add];rfl
 rw[e]at hl
 rw[den_fn t65 _ _ _ rfl]
 simp only[b65]
 simp (maxSteps:=1000000) (disch:=first|omega|assumption|decide +kernel|(simp;done)|(simp;omega)|fail) [hl]
theorem fish_nonneg {t:DTrap}(h:DoorOk t): ∀f∈fishL t,0≤f:=fun f hf=>by
 obtain⟨g,hg,rfl⟩:=List.mem_map.1 hf
 exact(h.groups g hg).2.1
theorem e_worthL(t:DTrap)(h:DoorOk t)(lab s):den T 19 [.agg (dV t)] lab s=some (i64 (worthT t t.turns.toNat),s):=by
 have h1:=fun lab s=>e_Worth t (doorB_short (doorB_iff.2 h)) lab s
 have h2:=fun lab s=>e_all t h lab s
 have e:worthR t=(worthT t t.turns.toNat,0):=by unfold worthR;rw[if_pos (doorB_iff.2 h)]
 rw[e]at h1
 have h3: ¬worthT t t.turns.toNat<0:=by have:=worthS_nonneg (n:=t.chambers.toNat) (h:=t.hands.toNat) (fish_nonneg h) t.turns.toNat t.gates (posL t);unfold worthT;omega
 have h4: ¬sumF (fishL t)<worthT t t.turns.toNat:=by have:=worthS_le (n:=t.chambers.toNat) (h:=t.hands.toNat) (fish_nonneg h) t.turns.toNat t.gates (posL t);unfold worthT;omega
 generalize worthT t t.turns.toNat=w at*
 rw[den_fn t19 _ _ _ rfl]
 simp only[b19]
 simp (maxSteps:=1000000) (disch:=first|omega|assumption|decide +kernel|(simp;done)|(simp;omega)|fail) [h1,h2,h3,h4]
end Go.Proofs.Ytbcjofkfgpbhmaa

/-
  Doors, the reference: WaysOf, AreMoves.
-/
namespace Go.Proofs.Ytbcjofkfgpbhmaa
open Go.Ab
def wayG(p c:Int)(g:DGate):Bool:=g.op&&(decide (g.a=p)&&decide (g.b=c)||decide (g.b=p)&&decide (g.a=c))
theorem wayB_eq(gs:List DGate)(p c:Int):wayB gs p c=gs.any (wayG p c):=rfl
theorem foldl_or {α:Type}(f:α→Bool): ∀(l:List α) (b:Bool),l.foldl (fun b x=>b||f x) b=(b||l.any f)
 |[],b=>by simp
 |x::l,b=>by rw[List.foldl_cons,foldl_or f l,List.any_cons,Bool.or_assoc]
set_option maxHeartbeats 8000000 in
theorem e_WaysOf_l1(t:DTrap)(h:DoorOk t)(p c:Int)(out:List Int)(s:Stk):
 Run T b25l1 [(1,i64 p),(2, .ptr s.length 32 0),(5, .sl (.own s.length 81) 1 (es cInt out)),(6,i64 c),(7, .bool false),(8,i64 0)] ([(32, .cell (dV t)),(81, .tok out.length)]::s)=
  some (.exit 2,[(1,i64 p),(2, .ptr s.length 32 0),(5, .sl (.own s.length 81) 1 (es cInt out)),(6,i64 c),(7, .bool (wayB t.gates p c)),(8,i64 t.gates.length),(20, .bool false)],[(32, .cell (dV t)),(81, .tok out.length)]::s):=by
 have key:=loop_fold (T:=Go.Proofs.Ytbcjofkfgpbhmaa.T) (live:=[1,2,5,6,7,8]) (keep:=[32,81,960,976,1056]) (b:=d25l1) t.gates (fun _ _=>True) (fun b g=>b||wayG p c g)
  (fun k b=>[(1,i64 p),(2, .ptr s.length 32 0),(5, .sl (.own s.length 81) 1 (es cInt out)),(6,i64 c),(7, .bool b),(8,i64 (k:Nat))]) (fun _ _=>[(32, .cell (dV t)),(81, .tok out.length)]::s)
  (fun b=>(.exit 2,[(1,i64 p),(2, .ptr s.length 32 0),(5, .sl (.own s.length 81) 1 (es cInt out)),(6,i64 c),(7, .bool b),(8,i64 t.gates.length),(20, .bool false)],[(32, .cell (dV t)),(81, .tok out.length)]::s))
  (by simp) ?_ ?_ ?_ false trivial [(1,i64 p),(2, .ptr s.length 32 0),(5, .sl (.own s.length 81) 1 (es cInt out)),(6,i64 c),(7, .bool false),(8,i64 0)] ([(32, .cell (dV t)),(81, .tok out.length)]::s) (by simp) (by simp)
 ·rw[foldl_or,Bool.false_or,←wayB_eq]at key
  exact key
 ·intro k b hk _
  have hl:=h.gl
  have hk2:(k:Int)<t.gates.length:=by omega
  generalize hG:t.gates[k]=G at*
  have hw:=wk k (by omega)
  cases b
  ·unfold wayG
   cases c1:G.op
   ·simp (maxSteps:=1000000) (disch:=first|omega|assumption|decide +kernel|(simp;done)|(simp;omega)|fail) [hk,hk2,hG,c1,hw]
   ·by_cases c2:G.a=p
    ·by_cases c3:G.b=c
     ·simp (maxSteps:=1000000) (disch:=first|omega|assumption|decide +kernel|(simp;done)|(simp;omega)|fail) [hk,hk2,hG,c1,c2,c3,hw]
     ·by_cases c4:G.b=p
      ·have c5: ¬p=c:=fun e=>c3 (c4.trans e)
       simp (maxSteps:=1000000) (disch:=first|omega|assumption|decide +kernel|(simp;done)|(simp;omega)|fail) [hk,hk2,hG,c1,c2,c3,c4,c5,hw]
      ·simp (maxSteps:=1000000) (disch:=first|omega|assumption|decide +kernel|(simp;done)|(simp;omega)|fail) [hk,hk2,hG,c1,c2,c3,c4,hw]
    ·by_cases c4:G.b=p
     ·by_cases c5:G.a=c
      ·have c6: ¬c=p:=fun e=>c2 (c5.trans e)
       simp (maxSteps:=1000000) (disch:=first|omega|assumption|decide +kernel|(simp;done)|(simp;omega)|fail) [hk,hk2,hG,c1,c4,c5,c6,hw]
      ·simp (maxSteps:=1000000) (disch:=first|omega|assumption|decide +kernel|(simp;done)|(simp;omega)|fail) [hk,hk2,hG,c1,c2,c4,c5,hw]
     ·simp (maxSteps:=1000000) (disch:=first|omega|assumption|decide +kernel|(simp;done)|(simp;omega)|fail) [hk,hk2,hG,c1,c2,c4,hw]
  ·simp only[Bool.true_or]
   simp (maxSteps:=1000000) (disch:=first|omega|assumption|decide +kernel|(simp;done)|(simp;omega)|fail) [hk,hk2,hG,hw]
 ·intro k b hk _;trivial
 ·intro b _
  simp
def wayAdd(gs:List DGate)(p:Int)(a:List Int)(k:Nat):List Int:=if wayB gs p (k:Int)=true then a ++[(k:Int)]else a
theorem wayAdd_all(gs:List DGate)(p:Int)(n:Nat):(List.range n).foldl (wayAdd gs p) []=(rangeI n).filter (wayB gs p):=by
 have: ∀(l:List Nat) (a:List Int),l.foldl (wayAdd gs p) a=a ++(l.map fun(i:Nat)=>(i:Int)).filter (wayB gs p):=by
  intro l
  induction l with
  |nil=>intro a;simp
  |cons x r ih=>
    intro a
    rw[List.foldl_cons,ih]
    unfold wayAdd
    by_cases hx:wayB gs p x=true<;>simp[hx]
 rw[this];rfl
set_option maxHeartbeats 4000000 in
theorem e_WaysOf(t:DTrap)(h:DoorOk t)(p:Int)(lab s):den T 25 [.agg (dV t),i64 p] lab s=some (.sl .no 1 (es cInt (waysS t.chambers.toNat t.gates p)),s):=by
 have hch:=h.ch
 have key:=loop_fold (T:=Go.Proofs.Ytbcjofkfgpbhmaa.T) (live:=[1,2,5,6]) (keep:=[32,81,1056]) (b:=d25l0) (List.range t.chambers.toNat) (fun k (a:List Int)=>a.length≤k) (wayAdd t.gates p)
  (fun k a=>[(1,i64 p),(2, .ptr s.length 32 0),(5, .sl (.own s.length 81) 1 (es cInt a)),(6,i64 (k:Nat))]) (fun _ a=>[(32, .cell (dV t)),(81, .tok a.length)]::s)
  (fun a=>(.exit 0,[(1,i64 p),(2, .ptr s.length 32 0),(5, .sl (.own s.length 81) 1 (es cInt a)),(6,i64 t.chambers.toNat),(13, .bool false)],[(32, .cell (dV t)),(81, .tok a.length)]::s))
  (by simp) ?_ ?_ ?_ [] (by simp) [(5, .sl (.own s.length 81) 1 []),(1,i64 p),(2, .ptr s.length 32 0),(5, .sl .full 1 []),(6,i64 0)] ([(32, .cell (dV t)),(81, .tok 0)]::s) (by simp) (by simp)
 ·rw[wayAdd_all]at key
  unfold waysS
  have hc2:t.chambers=((t.chambers.toNat:Nat):Int):=by omega
  generalize (rangeI t.chambers.toNat).filter (wayB t.gates p)=L at*
  change Run T b25l0 _ _=_ at key
  dsimp only
  cases L with
  |nil=>
    rw[den_fn t25 _ _ _ rfl]
    simp only[b25]
    simp (maxSteps:=1000000) (disch:=first|omega|assumption|decide +kernel|(simp;done)|(simp;omega)|fail) [key]<;>rfl
  |cons x L=>
    rw[if_neg (List.cons_ne_nil x L)]
    generalize hE:es cInt (x::L)=E at*
    have hne: ¬(E.length=0):=by rw[←hE];simp[es]
    have hne2: ¬((E.length:Int)=0):=by omega
    rw[den_fn t25 _ _ _ rfl]
    simp only[b25]
    simp (maxSteps:=1000000) (disch:=first|omega|assumption|decide +kernel|(simp;done)|(simp;omega)|fail) [key,hne,hne2]
 ·intro k a hk hi
  simp only[List.length_range]at hk
  simp only[List.getElem_range]
  have hk2:(k:Int)<t.chambers:=by omega
  have hl1:=e_WaysOf_l1 t h p (k:Nat) a s
  have e0:es cInt a ++[[i64 (k:Nat)]]=es cInt (a ++[(k:Int)]):=by simp[es]
  unfold wayAdd
  cases hw:wayB t.gates p (k:Nat)<;>rw[hw]at hl1
  ·simp (maxSteps:=1000000) (disch:=first|omega|assumption|decide +kernel|(simp;done)|(simp;omega)|fail) [hk2,hl1,wk k (by omega)]
  ·simp (maxSteps:=1000000) (disch:=first|omega|assumption|decide +kernel|(simp;done)|(simp;omega)|fail) [hk2,hl1,e0,appK_own1,wk k (by omega)]
 ·intro k a hk hi
  unfold wayAdd
  split<;>(try simp only[List.length_append,List.length_cons,List.length_nil])<;>omega
 ·intro a hi
  simp only[List.length_range]
  have hc2:((t.chambers.toNat:Nat):Int)=t.chambers:=by omega
  simp (maxSteps:=1000000) (disch:=first|omega|assumption|decide +kernel|(simp;done)|(simp;omega)|fail) [hc2]
end Go.Proofs.Ytbcjofkfgpbhmaa

/-
  Doors, the reference: Changed, Moved.
-/
namespace Go.Proofs.Ytbcjofkfgpbhmaa
open Go.Ab
def flip1(g:DGate):DGate:= {g with op:= !g.op}
def flipAll(c:List Int)(gs:List DGate):List DGate:=c.foldl (fun gs j=>gs.modify j.toNat flip1) gs
theorem flipAll_get: ∀(c:List Int) (gs:List DGate) (i:Nat),c.Pairwise (· < ·)→(∀y∈c,0≤y)→(flipAll c gs)[i]? =(gs[i]?).map fun g=>if (i:Int)∈c then flip1 g else g
 |[],gs,i,_,_=>by simp[flipAll]
 |j::c,gs,i,h,h0=>by
   have ih:=flipAll_get c (gs.modify j.toNat flip1) i (List.pairwise_cons.1 h).2 fun y hy=>h0 y (by simp[hy])
   have hj:=h0 j (by simp)
   have hr:=(List.pairwise_cons.1 h).1
   simp only[flipAll,List.foldl_cons]at ih⊢
   rw[ih,List.getElem?_modify]
   cases hg:gs[i]? with
   |none=>simp
   |some g=>
     by_cases e:j.toNat=i
     ·have e2:(i:Int)=j:=by omega
      have hn: ¬j∈c:=fun hc=>by have:=hr j hc;omega
      simp[e,e2,hn]
     ·have e2: ¬(i:Int)=j:=by omega
      simp[e,e2]
theorem flipAll_eq {c:List Int} {gs:List DGate}(h:c.Pairwise (· < ·))(h0: ∀y∈c,0≤y):flipAll c gs=flipG gs c:=by
 apply List.ext_getElem?
 intro i
 rw[flipAll_get c gs i h h0,flipS_get,Nat.zero_add];rfl
def changedT(t:DTrap)(c:List Int):DTrap:= {t with gates:=flipG t.gates c}
abbrev zeroT:List V:=[i64 0,i64 0,i64 0, .sl .full 3 [], .sl .full 2 []]
@[simp] theorem flipAt_len(gs:List DGate)(j:Nat):(gs.modify j flip1).length=gs.length:=by simp
theorem es_setGate(gs:List DGate)(j:Nat)(hj:j<gs.length)(a b:Int)(o:Bool)(h1:gs[j].a=a)(h2:gs[j].b=b)(h3:gs[j].op=o):(es cGate gs).set j [i64 a,i64 b, .bool (!o)]=es cGate (gs.modify j flip1):=by
 apply List.ext_getElem?
 intro i
 simp only[es,List.getElem?_set,List.getElem?_map,List.getElem?_modify,List.length_map]
 by_cases e:j=i
 ·subst e
  simp[hj,flip1,←h1,←h2,←h3]
 ·simp[e]
abbrev chgF(t:DTrap)(d:Nat)(gs:List DGate)(rs:List DGroup):Ab.Loc:=[(32, .cell (dV t)),(64, .cell zeroT),(144, .arr 3 (es cGate gs)),(1144, .arr 2 (es cGroup rs)),(80, .cell [i64 t.chambers,i64 t.turns,i64 t.hands, .asl d 144 3 t.gates.length 0 t.gates.length, .asl d 1144 2 t.groups.length 0 t.groups.length])]
set_option maxHeartbeats 4000000 in
theorem e_Changed_l(t:DTrap)(hs:ShortD t)(c:List Int)(hc:c.length<1000000000000)(hr: ∀y∈c,0≤y∧y<t.gates.length)(s:Stk):
 Run T b24l0 [(1, .sl .no 1 (es cInt c)),(4, .ptr s.length 64 0),(5, .ptr s.length 80 0),(6,i64 0)] (chgF t s.length t.gates t.groups::s)=
  some (.exit 0,[(1, .sl .no 1 (es cInt c)),(4, .ptr s.length 64 0),(5, .ptr s.length 80 0),(6,i64 c.length),(13, .bool false)],chgF t s.length (flipAll c t.gates) t.groups::s):=by
 have hgl:=hs.gates
 refine loop_fold (T:=Go.Proofs.Ytbcjofkfgpbhmaa.T) (live:=[1,4,5,6]) (keep:=[32,64,80,144,1144]) (b:=d24l0) c (fun _ (gs:List DGate)=>gs.length=t.gates.length) (fun gs j=>gs.modify j.toNat flip1)
  (fun k _=>[(1, .sl .no 1 (es cInt c)),(4, .ptr s.length 64 0),(5, .ptr s.length 80 0),(6,i64 (k:Nat))]) (fun _ gs=>chgF t s.length gs t.groups::s)
  (fun gs=>(.exit 0,[(1, .sl .no 1 (es cInt c)),(4, .ptr s.length 64 0),(5, .ptr s.length 80 0),(6,i64 c.length),(13, .bool false)],chgF t s.length gs t.groups::s))
  (by simp) ?_ ?_ ?_ t.gates rfl [(1, .sl .no 1 (es cInt c)),(4, .ptr s.length 64 0),(5, .ptr s.length 80 0),(6,i64 0)] (chgF t s.length t.gates t.groups::s) (by simp) (by simp)
 ·intro k gs hk hi
  obtain⟨h0,h1⟩:=hr c[k] (List.getElem_mem hk)
  obtain⟨j,hj⟩: ∃j:Nat,c[k]=j:=⟨c[k].toNat,by omega⟩
  have hjl:j<gs.length:=by omega
  have hjl2:j<t.gates.length:=by omega
  have hjt:(c[k]).toNat=j:=by omega
  rw[hjt]
  have hset:=es_setGate gs j hjl gs[j].a gs[j].b gs[j].op rfl rfl rfl
  generalize hG:gs[j]=G at*
  generalize gs.modify j flip1=gs' at*
  have hjl3:(j:Int)<t.gates.length:=by omega
  cases ho:G.op<;>simp only[ho,Bool.not_false,Bool.not_true]at hset
  ·simp (maxSteps:=1000000) (disch:=first|omega|assumption|decide +kernel|(simp;done)|(simp;omega)|fail) [run_drawnK,orSlow_none,hk,hj,hjl,hjl2,hjl3,hi,hG,ho,hset,wk k (by omega)]
  ·simp (maxSteps:=1000000) (disch:=first|omega|assumption|decide +kernel|(simp;done)|(simp;omega)|fail) [run_drawnK,orSlow_none,hk,hj,hjl,hjl2,hjl3,hi,hG,ho,hset,wk k (by omega)]
 ·intro k gs hk hi
  simp[hi]
 ·intro gs hi
  simp
end Go.Proofs.Ytbcjofkfgpbhmaa

/-
  Doors, the reference: Changed, Moved, AreMoves; isTurn, behind.
-/
namespace Go.Proofs.Ytbcjofkfgpbhmaa
open Go.Ab
theorem flipAll_len(c:List Int): ∀gs,(flipAll c gs).length=gs.length:=by
 induction c with
 |nil=>intro gs;rfl
 |cons j c ih=>intro gs;simp only[flipAll,List.foldl_cons]at ih⊢;rw[ih];simp
set_option maxHeartbeats 4000000 in
theorem e_Changed(t:DTrap)(hs:ShortD t)(c:List Int)(hc:c.length<1000000000000)(hr: ∀y∈c,0≤y∧y<t.gates.length)(hp:c.Pairwise (· < ·))(lab s):
 den T 24 [.agg (dV t), .sl .no 1 (es cInt c)] lab s=some (.agg (dV (changedT t c)),s):=by
 have hcp:=fun lab loc s k0 k1=>e_CopyD t hs lab loc s k0 k1
 have hl:=e_Changed_l t hs c hc hr s
 have hlen:=flipAll_len c t.gates
 rw[flipAll_eq hp fun y hy=>(hr y hy).1]at hl hlen
 unfold changedT
 generalize flipG t.gates c=gs at*
 have htk:gs.take t.gates.length=gs:=List.take_of_length_le (by omega)
 rw[den_fn t24 _ _ _ rfl]
 simp only[b24]
 simp (maxSteps:=1000000) (disch:=first|omega|assumption|decide +kernel|(simp;done)|(simp;omega)|fail) [hcp,hl,hlen,htk]
def movedG(m:List Int):Nat→List DGroup→List DGroup
 |_,[]=>[]
 |i,g::r=>(if i<m.length then {g with pos:=m.getD i 0}else g)::movedG m (i+1) r
theorem movedG_get(m:List Int): ∀(i:Nat) (gs:List DGroup) (j:Nat),(movedG m i gs)[j]? =(gs[j]?).map fun g=>if i+j<m.length then {g with pos:=m.getD (i+j) 0}else g
 |_,[],j=>by simp[movedG]
 |i,g::r,0=>by simp[movedG]
 |i,g::r,j+1=>by
   simp only[movedG,List.getElem?_cons_succ,movedG_get m (i+1) r j]
   rw[show i+1+j=i+(j+1)by omega]
@[simp] theorem movedG_len(m:List Int): ∀(i:Nat) (gs:List DGroup),(movedG m i gs).length=gs.length
 |_,[]=>rfl
 |i,g::r=>by simp[movedG,movedG_len m (i+1) r]
def movedT(t:DTrap)(m:List Int):DTrap:= {t with turns:=t.turns-1,groups:=movedG m 0 t.groups}
def moveStep(m:List Int)(gs:List DGroup)(k:Nat):List DGroup:=gs.modify k fun g=> {g with pos:=m.getD k 0}
theorem moveStep_all(m:List Int)(gs:List DGroup):(List.range m.length).foldl (moveStep m) gs=movedG m 0 gs:=by
 have key: ∀n,n≤m.length→ ∀i:Nat,((List.range n).foldl (moveStep m) gs)[i]? =(gs[i]?).map fun g=>if i<n then {g with pos:=m.getD i 0}else g:=by
  intro n
  induction n with
  |zero=>intro _ i;simp
  |succ n ih=>
    intro hn i
    rw[List.range_succ,List.foldl_append]
    simp only[List.foldl_cons,List.foldl_nil]
    unfold moveStep
    rw[List.getElem?_modify]
    have:=ih (by omega) i
    unfold moveStep at this
    rw[this]
    cases hg:gs[i]? with
    |none=>simp
    |some g=>
      by_cases e:n=i
      ·subst e;simp
      ·by_cases h1:i<n
       ·simp[e,h1,show i<n+1 by omega]
       ·simp[e,h1,show¬i<n+1 by omega]
 apply List.ext_getElem?
 intro i
 rw[key m.length (Nat.le_refl _) i,movedG_get]
 simp
theorem es_setGroup(gs:List DGroup)(j:Nat)(hj:j<gs.length)(a f:Int)(h2:gs[j].fish=f)(m:List Int)(ha:m.getD j 0=a):(es cGroup gs).set j [i64 a,i64 f]=es cGroup (moveStep m gs j):=by
 apply List.ext_getElem?
 intro i
 simp only[es,moveStep,List.getElem?_set,List.getElem?_map,List.getElem?_modify,List.length_map]
 by_cases e:j=i
 ·subst e
  subst h2 ha
  simp[hj]
 ·simp[e]
theorem moveStep_len(m gs k):(moveStep m gs k).length=gs.length:=by simp[moveStep]
set_option maxHeartbeats 4000000 in
theorem e_Moved_l(t:DTrap)(hs:ShortD t)(m:List Int)(hm:m.length=t.groups.length)(s:Stk):
 Run T b27l0 [(1, .sl .no 1 (es cInt m)),(4, .ptr s.length 64 0),(5, .ptr s.length 80 0),(6,i64 0)] (chgF t s.length t.gates t.groups::s)=
  some (.exit 0,[(1, .sl .no 1 (es cInt m)),(4, .ptr s.length 64 0),(5, .ptr s.length 80 0),(6,i64 m.length),(13, .bool false)],chgF t s.length t.gates (movedG m 0 t.groups)::s):=by
 have hgl:=hs.groups
 have key:=loop_fold (T:=Go.Proofs.Ytbcjofkfgpbhmaa.T) (live:=[1,4,5,6]) (keep:=[32,64,80,144,1144]) (b:=d27l0) (List.range m.length) (fun _ (gs:List DGroup)=>gs.length=t.groups.length) (moveStep m)
  (fun k _=>[(1, .sl .no 1 (es cInt m)),(4, .ptr s.length 64 0),(5, .ptr s.length 80 0),(6,i64 (k:Nat))]) (fun _ gs=>chgF t s.length t.gates gs::s)
  (fun gs=>(.exit 0,[(1, .sl .no 1 (es cInt m)),(4, .ptr s.length 64 0),(5, .ptr s.length 80 0),(6,i64 m.length),(13, .bool false)],chgF t s.length t.gates gs::s))
  (by simp) ?_ ?_ ?_ t.groups rfl [(1, .sl .no 1 (es cInt m)),(4, .ptr s.length 64 0),(5, .ptr s.length 80 0),(6,i64 0)] (chgF t s.length t.gates t.groups::s) (by simp) (by simp)
 ·rw[moveStep_all]at key
  exact key
 ·intro k gs hk hi
  simp only[List.length_range]at hk
  simp only[List.getElem_range]
  have hkl:k<gs.length:=by omega
  have hkg:k<t.groups.length:=by omega
  have hkm:(k:Int)<t.groups.length:=by omega
  have hg:m.getD k 0=m[k]:=by simp[List.getD,hk]
  have hset:=es_setGroup gs k hkl m[k] gs[k].fish rfl m hg
  generalize hG:gs[k]=G at*
  generalize hx:m[k]=x at*
  generalize moveStep m gs k=gs' at*
  simp (maxSteps:=1000000) (disch:=first|omega|assumption|decide +kernel|(simp;done)|(simp;omega)|fail) [run_drawnK,orSlow_none,hk,hkl,hkg,hkm,hi,hG,hx,hset,wk k (by omega)]
 ·intro k gs hk hi
  rw[moveStep_len,hi]
 ·intro gs hi
  simp
set_option maxHeartbeats 4000000 in
theorem e_Moved(t:DTrap)(hs:ShortD t)(hT:0<t.turns∧t.turns≤4)(m:List Int)(hm:m.length=t.groups.length)(lab s):
 den T 27 [.agg (dV t), .sl .no 1 (es cInt m)] lab s=some (.agg (dV (movedT t m)),s):=by
 have hcp:=fun lab loc s k0 k1=>e_CopyD t hs lab loc s k0 k1
 have hl:=e_Moved_l t hs m hm s
 have hlen:=movedG_len m 0 t.groups
 have hw:IntKind.i64.wrap (t.turns-1)=t.turns-1:=wi _ (by omega) (by omega)
 unfold movedT
 generalize movedG m 0 t.groups=gs at*
 have htk:gs.take t.groups.length=gs:=List.take_of_length_le (by omega)
 rw[den_fn t27 _ _ _ rfl]
 simp only[b27]
 simp (maxSteps:=1000000) (disch:=first|omega|assumption|decide +kernel|(simp;done)|(simp;omega)|fail) [hcp,hl,hlen,hw,htk]
def areAt(t:DTrap)(m:List Int)(k:Nat):Bool:=match t.groups[k]? with
 |some g=>anyB (fun x=>decide (x=m.getD k 0)) (waysS t.chambers.toNat t.gates g.pos)
 |none=>true
def areB(t:DTrap)(m:List Int):Bool:=decide (m.length=t.groups.length)&&allB (areAt t m) (List.range m.length)
theorem areB_iff {t:DTrap} {m:List Int}:areB t m=true↔m∈movesS ((posL t).map (waysS t.chambers.toNat t.gates)):=by
 simp only[areB,Bool.and_eq_true,decide_eq_true_eq,allB,List.all_eq_true,List.mem_range,mem_moves,posL,List.length_map]
 constructor
 ·rintro⟨h1,h2⟩
  refine⟨h1,fun i x p hx hp=> ?_⟩
  have hi:i<m.length:=(List.getElem?_eq_some_iff.1 hx).1
  have:=h2 i hi
  rw[List.getElem?_map]at hp
  obtain⟨g,hg,rfl⟩:=Option.map_eq_some_iff.1 hp
  simp only[areAt,hg,anyB,List.any_eq_true,decide_eq_true_eq,List.getD,hx,Option.getD_some]at this
  obtain⟨y,hy,rfl⟩:=this
  exact hy
 ·rintro⟨h1,h2⟩
  refine⟨h1,fun i hi=> ?_⟩
  have hi2:i<t.groups.length:=by omega
  simp only[areAt,List.getElem?_eq_getElem hi2,anyB,List.any_eq_true,decide_eq_true_eq]
  exact⟨m[i],h2 i m[i] _ (List.getElem?_eq_getElem hi) (by rw[List.getElem?_map,List.getElem?_eq_getElem hi2];rfl),by simp[List.getD,hi]⟩
set_option maxHeartbeats 4000000 in
theorem e_AreMoves(t:DTrap)(h:DoorOk t)(m:List Int)(hml:m.length<1000000)(lab s):den T 30 [.agg (dV t), .sl .no 1 (es cInt m)] lab s=some (.bool (areB t m),s):=by
 unfold areB
 by_cases hm:m.length=t.groups.length
 ·have hol:=h.ol
  have hm2:(m.length:Int)=t.groups.length:=by omega
  have key:=loop_all (T:=Go.Proofs.Ytbcjofkfgpbhmaa.T) (live:=[1,2,5]) (keep:=[32]) (b:=d30l0) (List.range m.length) (areAt t m) (fun k=>[(1, .sl .no 1 (es cInt m)),(2, .ptr s.length 32 0),(5,i64 (k:Nat))]) (fun _=>[(32, .cell (dV t))]::s)
   (.ret,[(4, .bool false)],[(32, .cell (dV t))]::s) (.exit 0,[(1, .sl .no 1 (es cInt m)),(2, .ptr s.length 32 0),(5,i64 m.length),(15, .bool false)],[(32, .cell (dV t))]::s) (by simp) (by simp) ?_ (by simp) [(1, .sl .no 1 (es cInt m)),(2, .ptr s.length 32 0),(5,i64 0)] ([(32, .cell (dV t))]::s) (by simp) (by simp)
  ·change Run T b30l0 _ _=_ at key
   cases ha:allB (areAt t m) (List.range m.length)<;>rw[ha]at key<;>simp only[Bool.false_eq_true,if_false,if_true]at key
   ·rw[den_fn t30 _ _ _ rfl]
    simp only[b30]
    simp (maxSteps:=1000000) (disch:=first|omega|assumption|decide +kernel|(simp;done)|(simp;omega)|fail) [key,hm,hm2]
   ·rw[den_fn t30 _ _ _ rfl]
    simp only[b30]
    simp (maxSteps:=1000000) (disch:=first|omega|assumption|decide +kernel|(simp;done)|(simp;omega)|fail) [key,hm,hm2]
  ·intro k hk
   simp only[List.length_range]at hk
   simp only[List.getElem_range]
   have hk2:k<t.groups.length:=by omega
   have hk3:(k:Int)<t.groups.length:=by omega
   have hw:=fun p lab s=>e_WaysOf t h p lab s
   have hg:m.getD k 0=m[k]:=by simp[List.getD,hk]
   have hwl: ∀p,(waysS t.chambers.toNat t.gates p).length<4611686018427387904:=fun p=>by
    have:=waysS_len (n:=t.chambers.toNat) (gs:=t.gates) (p:=p)
    have:=h.ch
    omega
   unfold areAt
   rw[List.getElem?_eq_getElem hk2,hg]
   generalize hG:t.groups[k]=G at*
   generalize hx:m[k]=x at*
   have hin:=fun lab s=>e_In (waysS t.chambers.toNat t.gates G.pos) x (hwl G.pos) lab s
   simp only
   by_cases hb:anyB (fun y=>decide (y=x)) (waysS t.chambers.toNat t.gates G.pos)=true
   rotate_left
   ·have hb:=Bool.eq_false_iff.2 hb
    simp (maxSteps:=1000000) (disch:=first|omega|assumption|decide +kernel|(simp;done)|(simp;omega)|fail) [run_drawnK,orSlow_none,hk,hk2,hk3,hG,hx,hw,hin,hb]
   ·simp (maxSteps:=1000000) (disch:=first|omega|assumption|decide +kernel|(simp;done)|(simp;omega)|fail) [run_drawnK,orSlow_none,hk,hk2,hk3,hG,hx,hw,hin,hb,wk k (by omega)]
 ·have hm2: ¬(m.length:Int)=t.groups.length:=by omega
  rw[den_fn t30 _ _ _ rfl]
  simp only[b30]
  simp (maxSteps:=1000000) (disch:=first|omega|assumption|decide +kernel|(simp;done)|(simp;omega)|fail) [hm,hm2]
end Go.Proofs.Ytbcjofkfgpbhmaa

/-
  Doors, the law's helpers: isTurn, behind; the chapter's examples.
-/
namespace Go.Proofs.Ytbcjofkfgpbhmaa
open Go.Ab
theorem changed_ok {t:DTrap}(h:DoorOk t)(c:List Int):DoorOk (changedT t c) where
 ch:=h.ch
 tu:=h.tu
 ha:=h.ha
 gl:=by simpa [changedT]using h.gl
 ol:=h.ol
 gates:=fun g hg=>by
  obtain⟨i,hi,rfl⟩:=List.getElem_of_mem hg
  have hi2:i<t.gates.length:=by simpa [changedT]using hi
  have:=flipS_get c 0 t.gates i
  rw[List.getElem?_eq_getElem (by simpa [changedT]using hi),List.getElem?_eq_getElem hi2]at this
  simp only[Option.map_some,Option.some.injEq]at this
  have hg:=h.gates _ (List.getElem_mem hi2)
  have e:(changedT t c).gates[i]=(if ((0+i:Nat):Int)∈c then {t.gates[i]with op:= !t.gates[i].op}else t.gates[i]):=this
  have e2:(changedT t c).chambers=t.chambers:=rfl
  rw[e,e2]
  split<;>exact hg
 groups:=h.groups
theorem posL_moved {t:DTrap} {m:List Int}(hm:m.length=t.groups.length):posL (movedT t m)=m:=by
 apply List.ext_getElem?
 intro i
 simp only[posL,movedT,List.getElem?_map,movedG_get,Nat.zero_add]
 by_cases hi:i<m.length
 ·rw[List.getElem?_eq_getElem (show i<t.groups.length by omega)]
  simp[hi,List.getD]
 ·rw[List.getElem?_eq_none (show t.groups.length≤i by omega),List.getElem?_eq_none (show m.length≤i by omega)];rfl
theorem fishL_moved(t:DTrap)(m:List Int):fishL (movedT t m)=fishL t:=by
 apply List.ext_getElem?
 intro i
 simp only[fishL,movedT,List.getElem?_map,movedG_get,Nat.zero_add]
 cases t.groups[i]? with
 |none=>rfl
 |some g=>
   simp only[Option.map_some]
   split<;>rfl
theorem moved_ok {t:DTrap}(h:DoorOk t)(hT:0<t.turns) {m:List Int}(hm:m∈movesS ((posL t).map (waysS t.chambers.toNat t.gates))):DoorOk (movedT t m) where
 ch:=h.ch
 tu:=by have:=h.tu;simp only[movedT];omega
 ha:=h.ha
 gl:=h.gl
 ol:=by simpa [movedT]using h.ol
 gates:=h.gates
 groups:=fun g hg=>by
  obtain⟨i,hi,rfl⟩:=List.getElem_of_mem hg
  have hi2:i<t.groups.length:=by simpa [movedT]using hi
  obtain⟨h1,h2⟩:=mem_moves.1 hm
  have hl:m.length=t.groups.length:=by simpa [posL]using h1
  have:=movedG_get m 0 t.groups i
  rw[List.getElem?_eq_getElem (by simpa using hi2),List.getElem?_eq_getElem hi2]at this
  simp only[Option.map_some,Option.some.injEq,Nat.zero_add,show i<m.length by omega,if_true]at this
  have hgi:=h.groups _ (List.getElem_mem hi2)
  have hw:=h2 i m[i] t.groups[i].pos (List.getElem?_eq_getElem (by omega)) (by simp[posL,hi2])
  have hr:=waysS_range (by have:=h.ch;omega) hw
  have e:(movedT t m).groups[i]= {t.groups[i]with pos:=m.getD i 0}:=this
  have e2:(movedT t m).chambers=t.chambers:=rfl
  have e3:m.getD i 0=m[i]:=by simp[List.getD,show i<m.length by omega]
  rw[e,e2,e3]
  have:=h.ch
  exact⟨by simp only;omega,hgi.2⟩
theorem mem_movesT {t:DTrap} {c m:List Int}:m∈movesT t c↔areB (changedT t c) m=true:=by rw[areB_iff];rfl
def behindT(t:DTrap)(c m:List Int):DTrap:=movedT (changedT t c) m
theorem behind_ok {t:DTrap}(h:DoorOk t)(hT:0<t.turns) {c m:List Int}(hm:m∈movesT t c):DoorOk (behindT t c m):=moved_ok (changed_ok h c) hT hm
theorem movesT_len {t:DTrap} {c m:List Int}(hm:m∈movesT t c):m.length=t.groups.length:=by have:=(mem_moves.1 hm).1;simpa [posL]using this
theorem worth_behind {t:DTrap} {c m:List Int}(hm:m∈movesT t c)(k:Nat):worthT (behindT t c m) k=worthS t.chambers.toNat t.hands.toNat (fishL t) k (flipG t.gates c) m:=by
 unfold worthT behindT
 rw[posL_moved (t:=changedT t c) (show m.length=(changedT t c).groups.length from movesT_len (t:=t) (c:=c) hm),fishL_moved];rfl
theorem e_behind(t:DTrap)(h:DoorOk t)(hT:0<t.turns)(c m:List Int)(hc:isChangeB t.hands t.gates.length c=true)(hcl:c.length<1000000000000)(hm:m.length=t.groups.length)(lab s):
 den T 31 [.agg (dV t), .sl .no 1 (es cInt c), .sl .no 1 (es cInt m)] lab s=some (.agg (dV (behindT t c m)),s):=by
 have hs:=doorB_short (doorB_iff.2 h)
 obtain⟨hcm,hc5,_⟩:=change_all h hc
 obtain⟨_,hp,hr⟩:=mem_choices.1 hcm
 have h1:=fun lab s=>e_Changed t hs c hcl hr hp lab s
 have h2:=fun lab s=>e_Moved (changedT t c) (doorB_short (doorB_iff.2 (changed_ok h c))) ⟨hT,h.tu.2⟩ m hm lab s
 unfold behindT
 generalize movedT (changedT t c) m=t2 at*
 generalize changedT t c=t1 at*
 rw[den_fn t31 _ _ _ rfl]
 simp only[b31]
 simp (maxSteps:=1000000) (disch:=first|omega|assumption|decide +kernel|(simp;done)|(simp;omega)|fail) [h1,h2]
def exT:DTrap:=⟨3,2,1,[⟨0,1,true⟩,⟨1,2,false⟩],[⟨0,10⟩,⟨1,7⟩]⟩
def exO:DTrap:=changedT exT [0]
theorem ex_ok:doorB exT=true:=by decide
set_option maxHeartbeats 2000000 in
theorem e_ExampleD(lab s):den T 60 [] lab s=some (.tup [.agg (dV exT), .agg (dV exO)],s):=by
 have hr: ∀y∈([0]:List Int),0≤y∧y<exT.gates.length:=by decide
 have h2:=fun lab s=>e_Changed exT (doorB_short ex_ok) [0] (by decide) hr (by decide) lab s
 change∀lab s,den T _ [.agg [i64 3,i64 2,i64 1, .sl .no 3 [[i64 0,i64 1, .bool true],[i64 1,i64 2, .bool false]], .sl .no 2 [[i64 0,i64 10],[i64 1,i64 7]]], .sl .no 1 [[i64 0]]] lab s=some (.agg [i64 3,i64 2,i64 1, .sl .no 3 [[i64 0,i64 1, .bool false],[i64 1,i64 2, .bool false]], .sl .no 2 [[i64 0,i64 10],[i64 1,i64 7]]],s)at h2
 change _=some (V.tup [.agg [i64 3,i64 2,i64 1, .sl .no 3 [[i64 0,i64 1, .bool true],[i64 1,i64 2, .bool false]], .sl .no 2 [[i64 0,i64 10],[i64 1,i64 7]]], .agg [i64 3,i64 2,i64 1, .sl .no 3 [[i64 0,i64 1, .bool false],[i64 1,i64 2, .bool false]], .sl .no 2 [[i64 0,i64 10],[i64 1,i64 7]]]],s)
 rw[den_fn t60 _ _ _ rfl]
 simp only[b60]
 simp (maxSteps:=1000000) (disch:=first|omega|assumption|decide +kernel|(simp;done)|(simp;omega)|fail) [run_drawnK,orSlow_none,h2]
end Go.Proofs.Ytbcjofkfgpbhmaa

/-
  Doors: the chapter's examples, by the program.
-/
namespace Go.Proofs.Ytbcjofkfgpbhmaa
open Go.Ab
theorem ex_worth:worthR exT=(10,0):=by decide +kernel
theorem ex_plan:planR exT=([1],0):=by decide +kernel
theorem ex_after:afterR exT [0]=(7,0):=by decide +kernel
theorem ex_reply:replyR exT [1]=([1,0],0):=by decide +kernel
theorem ex_catch:catchR exT 1=(1,0):=by decide +kernel
theorem ex_worthO:worthR exO=(7,0):=by decide +kernel
theorem exO_ok:doorB exO=true:=by decide +kernel
set_option maxHeartbeats 2000000 in
theorem e_worksD(lab s):den T 17 [] lab s=some (.bool true,s):=by
 have hs:=doorB_short ex_ok
 have hs2:=doorB_short exO_ok
 have h1:=fun lab s=>e_Worth exT hs lab s
 have h2:=fun lab s=>e_Plan exT hs lab s
 have h3:=fun lab s=>e_After exT hs [0] (by decide) lab s
 have h4:=fun lab s=>e_Reply exT hs [1] (by decide) lab s
 have h5:=fun lab s=>e_Catch exT hs 1 lab s
 have h6:=fun lab s=>e_Worth exO hs2 lab s
 have h0:=fun lab s=>e_ExampleD lab s
 rw[ex_worth]at h1
 rw[ex_plan]at h2
 rw[ex_after]at h3
 rw[ex_reply]at h4
 rw[ex_catch]at h5
 rw[ex_worthO]at h6
 have hs1:=fun lab s=>e_Same2 [1] [1] (by decide) (by decide) lab s
 have hs2:=fun lab s=>e_Same2 [1,0] [1,0] (by decide) (by decide) lab s
 have eA:dV exT=[i64 3,i64 2,i64 1, .sl .no 3 [[i64 0,i64 1, .bool true],[i64 1,i64 2, .bool false]], .sl .no 2 [[i64 0,i64 10],[i64 1,i64 7]]]:=rfl
 have eB:dV exO=[i64 3,i64 2,i64 1, .sl .no 3 [[i64 0,i64 1, .bool false],[i64 1,i64 2, .bool false]], .sl .no 2 [[i64 0,i64 10],[i64 1,i64 7]]]:=rfl
 have c1:es cInt [1]=[[i64 1]]:=rfl
 have c2:es cInt [0]=[[i64 0]]:=rfl
 have c3:es cInt [1,0]=[[i64 1],[i64 0]]:=rfl
 rw[eA]at h1 h2 h3 h4 h5 h0
 rw[eB]at h6 h0
 simp only[c1,c2,c3]at h2 h3 h4 hs1 hs2
 rw[den_fn t17 _ _ _ rfl]
 simp only[b17]
 simp (maxSteps:=1000000) (disch:=first|omega|assumption|decide +kernel|(simp;done)|(simp;omega)|fail) [h0,h1,h2,h3,h4,h5,h6,hs1,hs2]
end Go.Proofs.Ytbcjofkfgpbhmaa

/-
  DoorsBest: its equation.
-/
namespace Go.Proofs.Ytbcjofkfgpbhmaa
open Go.Ab
theorem plan_in {t:DTrap}(h:DoorOk t)(hT:0<t.turns):planS t∈choicesS t.hands.toNat t.gates.length∧leastT t (t.turns.toNat-1) (planS t)=worthT t t.turns.toNat∧
 ∀c∈choicesS t.hands.toNat t.gates.length,cmpL c (planS t)<0→leastT t (t.turns.toNat-1) c≠worthT t t.turns.toNat:=by
 have hs:=choices_sorted t.hands.toNat t.gates.length
 obtain⟨c,hc,e⟩:=worthS_mem (n:=t.chambers.toNat) (h:=t.hands.toNat) (fish_nonneg h) (t.turns.toNat-1) t.gates (posL t)
 have key: ∀l:List (List Int),(∃c∈l,leastT t (t.turns.toNat-1) c=worthT t t.turns.toNat)→l.Pairwise (fun a b=>cmpL a b<0)→
  ∃m,l.find? (fun c=>decide (leastT t (t.turns.toNat-1) c=worthT t t.turns.toNat))=some m∧m∈l∧leastT t (t.turns.toNat-1) m=worthT t t.turns.toNat∧ ∀c∈l,cmpL c m<0→leastT t (t.turns.toNat-1) c≠worthT t t.turns.toNat:=by
  intro l
  induction l with
  |nil=>rintro⟨c,hc,_⟩;cases hc
  |cons x r ih=>
    rintro⟨c,hc,hw⟩ hp
    obtain⟨hx,hp2⟩:=List.pairwise_cons.1 hp
    by_cases hxw:leastT t (t.turns.toNat-1) x=worthT t t.turns.toNat
    ·refine⟨x,by rw[List.find?_cons,decide_eq_true hxw],by simp,hxw,fun c hc hlt=> ?_⟩
     rcases List.mem_cons.1 hc with rfl|hc
     ·exact absurd hlt (cmpL_irr _)
     ·exact absurd (cmpL_trans _ _ _ hlt (hx c hc)) (cmpL_irr _)
    ·obtain⟨m,h1,h2,h3,h4⟩:=ih (by
      rcases List.mem_cons.1 hc with rfl|hc
      ·exact absurd hw hxw
      ·exact⟨c,hc,hw⟩) hp2
     refine⟨m,by rw[List.find?_cons,decide_eq_false hxw];exact h1,by simp[h2],h3,fun c hc hlt=> ?_⟩
     rcases List.mem_cons.1 hc with rfl|hc
     ·exact hxw
     ·exact h4 c hc hlt
 obtain⟨m,h1,h2,h3,h4⟩:=key _ ⟨c,hc,by unfold leastT worthT;rw[show t.turns.toNat=t.turns.toNat-1+1 by omega];exact e.symm⟩ hs
 have hp:planS t=m:=by simp[planS,h1]
 rw[hp]
 exact⟨h2,h3,h4⟩
theorem isChange_of {t:DTrap}(h:DoorOk t) {c:List Int}:isChangeB t.hands t.gates.length c=true↔c∈choicesS t.hands.toNat t.gates.length:=by
 have hh:t.hands=(t.hands.toNat:Int):=by have:=h.ha;omega
 rw[hh,isChange_mem,Int.toNat_natCast]
theorem worthT_nonneg {t:DTrap}(h:DoorOk t)(k:Nat):0≤worthT t k:=worthS_nonneg (fish_nonneg h) _ _ _
end Go.Proofs.Ytbcjofkfgpbhmaa

/-
  DoorsWorst: its equation.
-/
namespace Go.Proofs.Ytbcjofkfgpbhmaa
open Go.Ab
theorem cmp_irr_lex(a:List Int): ¬lexL a a<0:=by rw[lexL_self];omega
theorem waysS_sorted(n:Nat)(gs:List DGate)(p:Int):(waysS n gs p).Pairwise (· < ·):=by
 unfold waysS
 dsimp only
 split
 ·exact List.pairwise_singleton _ _
 ·refine List.Pairwise.filter _ ?_
  simp only[rangeI,List.pairwise_map]
  exact List.pairwise_lt_range.imp (fun h=>by omega)
theorem moves_sorted: ∀(W:List (List Int)),(∀w∈W,w.Pairwise (· < ·))→(movesS W).Pairwise fun a b=>lexL a b<0
 |[],_=>List.pairwise_singleton _ _
 |w::W,h=>by
   have ih:=moves_sorted W fun x hx=>h x (by simp[hx])
   have hw:=h w (by simp)
   have hl: ∀m∈movesS W,m.length=W.length:=fun m hm=>(mem_movesS.1 hm).1
   simp only[movesS]
   induction w with
   |nil=>exact .nil
   |cons x r ihr=>
     obtain⟨hx,hr⟩:=List.pairwise_cons.1 hw
     rw[List.flatMap_cons,List.pairwise_append]
     refine⟨?_,ihr (fun v hv=>by
      rcases List.mem_cons.1 hv with rfl|hv
      ·exact hr
      ·exact h v (by simp[hv])) hr,?_⟩
     ·rw[List.pairwise_map]
      exact ih.imp fun {a b} hab=>by simp only[lexL];rw[if_neg (by omega),if_neg (by omega)];exact hab
     ·intro a ha b hb
      obtain⟨a',_,rfl⟩:=List.mem_map.1 ha
      obtain⟨y,hy,hb⟩:=List.mem_flatMap.1 hb
      obtain⟨b',_,rfl⟩:=List.mem_map.1 hb
      have:=hx y hy
      simp only[lexL,if_pos this]
      omega
theorem reply_in(t:DTrap)(c:List Int):replyS t c∈movesT t c∧worthT (behindT t c (replyS t c)) (t.turns.toNat-1)=leastT t (t.turns.toNat-1) c∧
 ∀m∈movesT t c,lexL m (replyS t c)<0→worthT (behindT t c m) (t.turns.toNat-1)≠leastT t (t.turns.toNat-1) c:=by
 obtain⟨m,h1,h2,h3⟩:=reply_find (t:=t) (c:=c)
 have hs:=moves_sorted ((posL t).map (waysS t.chambers.toNat (flipG t.gates c))) fun w hw=>by
  obtain⟨p,_,rfl⟩:=List.mem_map.1 hw
  exact waysS_sorted _ _ _
 have hw:worthS t.chambers.toNat t.hands.toNat (fishL t) (t.turns.toNat-1) (flipG t.gates c) m=leastT t (t.turns.toNat-1) c:=by
  have:=List.find?_some h1
  simpa using this
 rw[h2]
 refine⟨h3,by rw[worth_behind h3];exact hw,fun x hx hlt=> ?_⟩
 rw[worth_behind hx]
 intro he
 have key: ∀l:List (List Int),l.Pairwise (fun a b=>lexL a b<0)→ ∀p:List Int→Bool,l.find? p=some m→ ∀x∈l,p x=true→ ¬lexL x m<0:=by
  intro l
  induction l with
  |nil=>intro _ p h;simp at h
  |cons y r ih=>
    intro hp p hf x hx hpx hlt
    obtain⟨hy,hr⟩:=List.pairwise_cons.1 hp
    cases hpy:p y
    ·rw[List.find?_cons,hpy]at hf
     rcases List.mem_cons.1 hx with rfl|hx
     ·rw[hpy]at hpx;cases hpx
     ·exact ih hr p hf x hx hpx hlt
    ·rw[List.find?_cons,hpy]at hf
     simp only[Option.some.injEq]at hf
     subst hf
     rcases List.mem_cons.1 hx with rfl|hx
     ·exact cmp_irr_lex _ hlt
     ·have:=lexL_trans _ _ _ hlt (hy x hx)
      exact cmp_irr_lex _ this
 exact key _ hs _ h1 x hx (by simpa using he) hlt
end Go.Proofs.Ytbcjofkfgpbhmaa

/-
  Doors: the reference's lists and changes.
-/
namespace Go.Proofs.Ytbcjofkfgpbhmaa
open Go.Ab
end Go.Proofs.Ytbcjofkfgpbhmaa

/-
  Doors: Ways and Choices, by the program and by the reference; equal lists, equal traps.
-/
namespace Go.Proofs.Ytbcjofkfgpbhmaa
open Go.Ab
end Go.Proofs.Ytbcjofkfgpbhmaa

/-
  DoorsWays: its equation.
-/
namespace Go.Proofs.Ytbcjofkfgpbhmaa
open Go.Ab
theorem same_l0(t:DTrap)(hg:t.gates.length≤40)(s:Stk):
 Run T b40l0 [(2, .ptr s.length 32 0),(3, .ptr s.length 48 0),(5,i64 0)] ([(32, .cell (dV t)),(48, .cell (dV t))]::s)=some (.exit 0,[(2, .ptr s.length 32 0),(3, .ptr s.length 48 0),(5,i64 t.gates.length),(48, .bool false)],[(32, .cell (dV t)),(48, .cell (dV t))]::s):=by
 have key:=loop_fold (T:=Go.Proofs.Ytbcjofkfgpbhmaa.T) (live:=[2,3,5]) (keep:=[32,48]) (b:=d40l0) (List.range t.gates.length) (fun _ (_:Unit)=>True) (fun a _=>a)
  (fun k _=>[(2, .ptr s.length 32 0),(3, .ptr s.length 48 0),(5,i64 (k:Nat))]) (fun _ _=>[(32, .cell (dV t)),(48, .cell (dV t))]::s)
  (fun _=>(.exit 0,[(2, .ptr s.length 32 0),(3, .ptr s.length 48 0),(5,i64 t.gates.length),(48, .bool false)],[(32, .cell (dV t)),(48, .cell (dV t))]::s))
  (by simp) ?_ (by simp) ?_ () trivial [(2, .ptr s.length 32 0),(3, .ptr s.length 48 0),(5,i64 0)] ([(32, .cell (dV t)),(48, .cell (dV t))]::s) (by simp) (by simp)
 ·exact key
 ·intro k _ hk _
  simp only[List.length_range]at hk
  have hk2:(k:Int)<t.gates.length:=by omega
  generalize hG:t.gates[k]=G at*
  simp (maxSteps:=1000000) (disch:=first|omega|assumption|decide +kernel|(simp;done)|(simp;omega)|fail) [run_drawnK,orSlow_none,hk,hk2,hG,wk k (by omega)]
 ·intro _ _
  simp
theorem same_l1(t:DTrap)(hg:t.groups.length≤40)(s:Stk):
 Run T b40l1 [(2, .ptr s.length 32 0),(3, .ptr s.length 48 0),(6,i64 0)] ([(32, .cell (dV t)),(48, .cell (dV t))]::s)=some (.exit 2,[(2, .ptr s.length 32 0),(3, .ptr s.length 48 0),(6,i64 t.groups.length),(66, .bool false)],[(32, .cell (dV t)),(48, .cell (dV t))]::s):=by
 have key:=loop_fold (T:=Go.Proofs.Ytbcjofkfgpbhmaa.T) (live:=[2,3,6]) (keep:=[32,48]) (b:=d40l1) (List.range t.groups.length) (fun _ (_:Unit)=>True) (fun a _=>a)
  (fun k _=>[(2, .ptr s.length 32 0),(3, .ptr s.length 48 0),(6,i64 (k:Nat))]) (fun _ _=>[(32, .cell (dV t)),(48, .cell (dV t))]::s)
  (fun _=>(.exit 2,[(2, .ptr s.length 32 0),(3, .ptr s.length 48 0),(6,i64 t.groups.length),(66, .bool false)],[(32, .cell (dV t)),(48, .cell (dV t))]::s))
  (by simp) ?_ (by simp) ?_ () trivial [(2, .ptr s.length 32 0),(3, .ptr s.length 48 0),(6,i64 0)] ([(32, .cell (dV t)),(48, .cell (dV t))]::s) (by simp) (by simp)
 ·exact key
 ·intro k _ hk _
  simp only[List.length_range]at hk
  have hk2:(k:Int)<t.groups.length:=by omega
  generalize hG:t.groups[k]=G at*
  simp (maxSteps:=1000000) (disch:=first|omega|assumption|decide +kernel|(simp;done)|(simp;omega)|fail) [run_drawnK,orSlow_none,hk,hk2,hG,wk k (by omega)]
 ·intro _ _
  simp
set_option maxHeartbeats 2000000 in
theorem e_SameD(t:DTrap)(hg:t.gates.length≤40)(hr:t.groups.length≤40)(lab s):den T 40 [.agg (dV t), .agg (dV t)] lab s=some (.bool true,s):=by
 have h0:=same_l0 t hg s
 have h1:=same_l1 t hr s
 rw[den_fn t40 _ _ _ rfl]
 simp only[b40]
 simp (maxSteps:=1000000) (disch:=first|omega|assumption|decide +kernel|(simp;done)|(simp;omega)|fail) [h0,h1]
end Go.Proofs.Ytbcjofkfgpbhmaa

/-
  Doors: long lists; copies of lists.
-/
namespace Go.Proofs.Ytbcjofkfgpbhmaa
open Go.Ab
end Go.Proofs.Ytbcjofkfgpbhmaa

/-
  Doors, the reference: Play.
-/
namespace Go.Proofs.Ytbcjofkfgpbhmaa
open Go.Ab
def playStep(C M:List (List Int))(t:DTrap)(i:Nat):DTrap×Bool:=
 if isChangeB t.hands t.gates.length (C.getD i [])=true∧areB (changedT t (C.getD i [])) (M.getD i [])=true then(behindT t (C.getD i []) (M.getD i []),true)else(t,false)
def playF(t:DTrap)(C M:List (List Int)):DTrap×Bool:=foldB (playStep C M) (List.range C.length) t
def zeroD:DTrap:=⟨0,0,0,[],[]⟩
def playR(t:DTrap)(C M:List (List Int)):DTrap×Int:=if doorB t=true then(if C.length=M.length then(if (C.length:Int)≤t.turns then(if (playF t C M).2=true then((playF t C M).1,0)else(zeroD,1))else(zeroD,3))else(zeroD,1))else(zeroD,30)
theorem dV_zero:dV zeroD=[i64 0,i64 0,i64 0, .sl .no 3 [], .sl .no 2 []]:=rfl
end Go.Proofs.Ytbcjofkfgpbhmaa

/-
  Doors: Play: the moves of a turn.
-/
namespace Go.Proofs.Ytbcjofkfgpbhmaa
open Go.Ab
abbrev playFr(t:DTrap)(d:Nat)(T1:Int)(o:Nat)(n:List Int):Ab.Loc:=[(48, .cell (dV t)),(96, .cell zeroT),(416, .cell (gameV t (chB t) (.mp (.ptr d 1416 0)))),(1416, .mp (some 5) []),(144, .cell (sceneL T1 (o:Nat) n))]
def goStep(t:DTrap)(o:Nat)(m:List Int)(n:List Int)(j:Nat):List Int×Bool:=
 if anyB (fun x=>decide (x=m.getD j 0)) (waysS t.chambers.toNat (openG o t.gates) (n.getD j 0))=true then(n.set j (m.getD j 0),true)else(n,false)
@[simp] theorem mapAll_i64(r:Ren): ∀n:List Int,V.mapAll r (n.map i64)=n.map i64
 |[]=>rfl
 |x::l=>by simp[V.mapAll,mapAll_i64 r l]
abbrev PlayH(d:Nat):= {F:Ab.Loc//F.get 96=some (.cell zeroT)}
instance (d:Nat):Inhabited (PlayH d):=⟨⟨[(96, .cell zeroT)],rfl⟩⟩
set_option maxHeartbeats 8000000 in
theorem play_l1(t:DTrap)(h:DoorOk t)(C M:List (List Int))(T1:Int)(o:Nat)(ho:o<32)(i:Nat)(m n:List Int)(hm:m.length=t.groups.length)(hn:n.length=3)(s:Stk):
 ∃g:PlayH 0,Run T b56l1 [(1, .sl .no 1 (es cInts C)),(2, .sl .no 1 (es cInts M)),(3, .ptr s.length 48 0),(6, .ptr s.length 96 0),(8, .ptr s.length 416 0),(9, .ptr s.length 144 0),(40, .sl .no 1 (es cInts C)),(41,i64 C.length),(42,i64 (i:Nat)),(75, .sl .no 1 (es cInt m)),(76,i64 m.length),(77,i64 0)] (playFr t s.length T1 o n::s)=
  if (foldB (goStep t o m) (List.range m.length) n).2=true then some (.exit 2,[(1, .sl .no 1 (es cInts C)),(2, .sl .no 1 (es cInts M)),(3, .ptr s.length 48 0),(6, .ptr s.length 96 0),(8, .ptr s.length 416 0),(9, .ptr s.length 144 0),(40, .sl .no 1 (es cInts C)),(41,i64 C.length),(42,i64 (i:Nat)),(75, .sl .no 1 (es cInt m)),(76,i64 m.length),(77,i64 m.length),(78, .bool false)],playFr t s.length T1 o (foldB (goStep t o m) (List.range m.length) n).1::s)
  else some (.ret,[(6, .ptr s.length 96 0),(7,i64 1)],g.1::s):=by
 have hol:=h.ol
 refine loop_list_e (T:=Go.Proofs.Ytbcjofkfgpbhmaa.T) (γ:=PlayH 0) (live:=[1,2,3,6,8,9,40,41,42,75,76,77]) (keep:=[48,96,144,416,1416]) (b:=d56l1) (List.range m.length) (fun _ (n:List Int)=>n.length=3)
  (fun k _=>[(1, .sl .no 1 (es cInts C)),(2, .sl .no 1 (es cInts M)),(3, .ptr s.length 48 0),(6, .ptr s.length 96 0),(8, .ptr s.length 416 0),(9, .ptr s.length 144 0),(40, .sl .no 1 (es cInts C)),(41,i64 C.length),(42,i64 (i:Nat)),(75, .sl .no 1 (es cInt m)),(76,i64 m.length),(77,i64 (k:Nat))]) (fun _ n=>playFr t s.length T1 o n::s)
  (goStep t o m) (fun g _=>(.ret,[(6, .ptr s.length 96 0),(7,i64 1)],g.1::s))
  (fun n=>(.exit 2,[(1, .sl .no 1 (es cInts C)),(2, .sl .no 1 (es cInts M)),(3, .ptr s.length 48 0),(6, .ptr s.length 96 0),(8, .ptr s.length 416 0),(9, .ptr s.length 144 0),(40, .sl .no 1 (es cInts C)),(41,i64 C.length),(42,i64 (i:Nat)),(75, .sl .no 1 (es cInt m)),(76,i64 m.length),(77,i64 m.length),(78, .bool false)],playFr t s.length T1 o n::s))
  (by simp) (by simp) ?_ ?_ n hn _ _ (by simp) (by simp)
 ·intro k n hk hn
  simp only[List.length_range]at hk
  simp only[List.getElem_range]
  obtain⟨x0,x1,x2,rfl⟩: ∃x0 x1 x2,n=[x0,x1,x2]:=by
   match n,hn with
   |[x0,x1,x2],_=>exact⟨x0,x1,x2,rfl⟩
  have hk2:(k:Int)<m.length:=by omega
  have hk3: ∀j:Int,j=(k:Int)→j<(m.length:Int):=fun j e=>by omega
  have hg:m.getD k 0=m[k]:=by simp[List.getD,hk]
  have hwl: ∀p,(waysS t.chambers.toNat (openG o t.gates) p).length<4611686018427387904:=fun p=>by
   have:=waysS_len (n:=t.chambers.toNat) (gs:=openG o t.gates) (p:=p)
   have:=h.ch
   omega
  have hwy:=fun p lab=>e_ways t h.gl h.gates (chB t) (.mp (.ptr s.length 1416 0)) o ho p s.length 416 (playFr t s.length T1 o [x0,x1,x2]::s) (by simp) (by simp) lab
  have hct:=fun p lab s=>e_Contains (waysS t.chambers.toNat (openG o t.gates) p) m[k] s (hwl p) lab
  unfold goStep
  rw[hg]
  simp only[playFr,sceneL,List.map_cons,List.map_nil]at hwy⊢
  generalize hx:m[k]=x at*
  have w1:IntKind.i64.wrap 1=1:=by decide +kernel
  have w2:IntKind.i64.wrap 2=2:=by decide +kernel
  have w3:IntKind.i64.wrap 3=3:=by decide +kernel
  obtain rfl|rfl|rfl:k=0∨k=1∨k=2:=by omega
  ·have hk4:=hk3 0 rfl
   simp only[List.getD_cons_zero,List.set_cons_zero]
   by_cases hb:anyB (fun y=>decide (y=x)) (waysS t.chambers.toNat (openG o t.gates) x0)=true
   ·rw[if_pos hb]
    refine⟨fun _=>⟨?_,rfl⟩,fun hf=>absurd hf (by simp)⟩
    simp (maxSteps:=1000000) (disch:=first|omega|assumption|decide +kernel|(simp;done)|(simp;omega)|fail) [run_drawnK,orSlow_none,hk,hk2,hk4,hx,zeroT,w1,w2,w3,hwy,hct,hb]
   ·have hb2:=Bool.eq_false_iff.2 hb
    rw[if_neg hb]
    refine⟨fun hf=>absurd hf (by simp),fun _=>⟨⟨playFr t s.length T1 o [x0,x1,x2],rfl⟩,?_⟩⟩
    simp (maxSteps:=1000000) (disch:=first|omega|assumption|decide +kernel|(simp;done)|(simp;omega)|fail) [run_drawnK,orSlow_none,hk,hk2,hk4,hx,zeroT,w1,w2,w3,hwy,hct,hb2]
  ·have hk4:=hk3 1 rfl
   simp only[List.getD_cons_zero,List.getD_cons_succ,List.set_cons_zero,List.set_cons_succ]
   by_cases hb:anyB (fun y=>decide (y=x)) (waysS t.chambers.toNat (openG o t.gates) x1)=true
   ·rw[if_pos hb]
    refine⟨fun _=>⟨?_,rfl⟩,fun hf=>absurd hf (by simp)⟩
    simp (maxSteps:=1000000) (disch:=first|omega|assumption|decide +kernel|(simp;done)|(simp;omega)|fail) [run_drawnK,orSlow_none,hk,hk2,hk4,hx,zeroT,w1,w2,w3,hwy,hct,hb]
   ·have hb2:=Bool.eq_false_iff.2 hb
    rw[if_neg hb]
    refine⟨fun hf=>absurd hf (by simp),fun _=>⟨⟨playFr t s.length T1 o [x0,x1,x2],rfl⟩,?_⟩⟩
    simp (maxSteps:=1000000) (disch:=first|omega|assumption|decide +kernel|(simp;done)|(simp;omega)|fail) [run_drawnK,orSlow_none,hk,hk2,hk4,hx,zeroT,w1,w2,w3,hwy,hct,hb2]
  ·have hk4:=hk3 2 rfl
   simp only[List.getD_cons_zero,List.getD_cons_succ,List.set_cons_zero,List.set_cons_succ]
   by_cases hb:anyB (fun y=>decide (y=x)) (waysS t.chambers.toNat (openG o t.gates) x2)=true
   ·rw[if_pos hb]
    refine⟨fun _=>⟨?_,rfl⟩,fun hf=>absurd hf (by simp)⟩
    simp (maxSteps:=1000000) (disch:=first|omega|assumption|decide +kernel|(simp;done)|(simp;omega)|fail) [run_drawnK,orSlow_none,hk,hk2,hk4,hx,zeroT,w1,w2,w3,hwy,hct,hb]
   ·have hb2:=Bool.eq_false_iff.2 hb
    rw[if_neg hb]
    refine⟨fun hf=>absurd hf (by simp),fun _=>⟨⟨playFr t s.length T1 o [x0,x1,x2],rfl⟩,?_⟩⟩
    simp (maxSteps:=1000000) (disch:=first|omega|assumption|decide +kernel|(simp;done)|(simp;omega)|fail) [run_drawnK,orSlow_none,hk,hk2,hk4,hx,zeroT,w1,w2,w3,hwy,hct,hb2]
 ·intro n hn
  simp
end Go.Proofs.Ytbcjofkfgpbhmaa

/-
  Doors: Play: what the moves of a turn come to.
-/
namespace Go.Proofs.Ytbcjofkfgpbhmaa
open Go.Ab
theorem go_get(m n:List Int)(s:Nat)(hn:s<n.length)(hm:s≤m.length):(m.take s ++n.drop s).getD s 0=n.getD s 0:=by
 have e:(m.take s).length=s:=by simp[List.length_take];omega
 simp only[List.getD_eq_getElem?_getD]
 rw[List.getElem?_append_right (by omega),e]
 simp
theorem go_set(m n:List Int)(s:Nat)(hn:s<n.length)(hm:s<m.length):(m.take s ++n.drop s).set s (m.getD s 0)=m.take (s+1) ++n.drop (s+1):=by
 have e:(m.take s).length=s:=by simp[List.length_take];omega
 rw[List.set_append_right _ _ (by omega),e,Nat.sub_self,List.drop_eq_getElem_cons hn,List.set_cons_zero,List.take_succ_eq_append_getElem hm]
 have e3:m.getD s 0=m[s]:=by simp[List.getD,hm]
 rw[e3]
 simp only[List.append_assoc,List.singleton_append]
theorem go_fold(t:DTrap)(o:Nat)(m n:List Int): ∀(k s:Nat),s+k≤n.length→s+k≤m.length→
 ((foldB (goStep t o m) (List.range' s k) (m.take s ++n.drop s)).2=true↔ ∀i,s≤i→i<s+k→m.getD i 0∈waysS t.chambers.toNat (openG o t.gates) (n.getD i 0))∧
 ((foldB (goStep t o m) (List.range' s k) (m.take s ++n.drop s)).2=true→(foldB (goStep t o m) (List.range' s k) (m.take s ++n.drop s)).1=m.take (s+k) ++n.drop (s+k))
 |0,s,_,_=>by
   simp only[List.range'_zero,foldB,Nat.add_zero,true_iff,forall_const]
   exact⟨fun i h1 h2=>absurd h2 (by omega),trivial⟩
 |k+1,s,h1,h2=>by
   obtain⟨i1,i2⟩:=go_fold t o m n k (s+1) (by omega) (by omega)
   simp only[List.range'_succ,foldB]
   have e:goStep t o m (m.take s ++n.drop s) s=if anyB (fun x=>decide (x=m.getD s 0)) (waysS t.chambers.toNat (openG o t.gates) (n.getD s 0))=true then(m.take (s+1) ++n.drop (s+1),true)else(m.take s ++n.drop s,false):=by
    unfold goStep
    rw[go_get m n s (by omega) (by omega),go_set m n s (by omega) (by omega)]
   have ea:anyB (fun x=>decide (x=m.getD s 0)) (waysS t.chambers.toNat (openG o t.gates) (n.getD s 0))=true↔m.getD s 0∈waysS t.chambers.toNat (openG o t.gates) (n.getD s 0):=by
    simp[anyB]
   rw[e]
   by_cases hb:m.getD s 0∈waysS t.chambers.toNat (openG o t.gates) (n.getD s 0)
   ·rw[if_pos (ea.2 hb)]
    simp only[if_true]
    rw[i1]
    refine⟨⟨fun h i a b=> ?_,fun h i a b=>h i (by omega) (by omega)⟩,fun h=> ?_⟩
    ·by_cases e:i=s
     ·rw[e];exact hb
     ·exact h i (by omega) (by omega)
    ·rw[i2 (i1.2 h),show s+1+k=s+(k+1)by omega]
   ·rw[if_neg (fun h=>hb (ea.1 h))]
    simp only[Bool.false_eq_true,if_false,false_iff,false_implies,and_true]
    exact fun h=>hb (h s (by omega) (by omega))
theorem go_are {t p:DTrap} {o:Nat} {m n:List Int}(hg:p.gates=openG o t.gates)(hc:p.chambers=t.chambers)(hp:posL p=n.take p.groups.length)(hn:n.length=3)(hl:p.groups.length≤3)(hm:m.length=p.groups.length):
 ((foldB (goStep t o m) (List.range m.length) n).2=true↔areB p m=true)∧(areB p m=true→(foldB (goStep t o m) (List.range m.length) n).1=m ++n.drop m.length):=by
 obtain⟨h1,h2⟩:=go_fold t o m n m.length 0 (by omega) (by omega)
 rw[List.range_eq_range']
 simp only[List.take_zero,List.nil_append,List.drop_zero,Nat.zero_add,List.take_length,Nat.zero_le,true_implies]at h1 h2
 have key:(foldB (goStep t o m) (List.range' 0 m.length) n).2=true↔areB p m=true:=by
  rw[h1,areB_iff,mem_moves]
  constructor
  ·intro h
   refine⟨by simp[hp];omega,fun i x q hx hq=> ?_⟩
   have hi:i<m.length:=(List.getElem?_eq_some_iff.1 hx).1
   have:=h i hi
   rw[hp,List.getElem?_take,if_pos (by omega)]at hq
   have ex:m.getD i 0=x:=by simp[List.getD,hx]
   have eq:n.getD i 0=q:=by simp[List.getD,hq]
   rw[ex,eq,←hg,←hc]at this
   exact this
  ·rintro⟨_,h⟩ i hi
   have hi2:i<n.length:=by omega
   have:=h i m[i] n[i] (List.getElem?_eq_getElem hi) (by rw[hp,List.getElem?_take,if_pos (by omega)];exact List.getElem?_eq_getElem hi2)
   rw[←hg,←hc]
   have ex:m.getD i 0=m[i]:=by simp[List.getD,hi]
   have eq:n.getD i 0=n[i]:=by simp[List.getD,hi2]
   rw[ex,eq]
   exact this
 exact⟨key,fun h=>h2 (key.2 h)⟩
end Go.Proofs.Ytbcjofkfgpbhmaa

/-
  Doors: Play: the turns.
-/
namespace Go.Proofs.Ytbcjofkfgpbhmaa
open Go.Ab
structure PlayI(t p:DTrap)(i:Nat)(a:Nat×List Int):Prop where
 ok:DoorOk p
 gates:p.gates=openG a.1 t.gates
 ch:p.chambers=t.chambers
 ha:p.hands=t.hands
 tu:p.turns=t.turns-(i:Nat)
 at':posL p=a.2.take p.groups.length
 n:a.2.length=3
 gl:p.groups.length=t.groups.length
 fish:fishL p=fishL t
 o:a.1<32
 gg:p.gates.length=t.gates.length
def plStep(t:DTrap)(C M:List (List Int))(a:Nat×List Int)(i:Nat):(Nat×List Int)×Bool:=
 if (bitsR t (C.getD i [])).2=true∧(M.getD i []).length=t.groups.length then
  ((xorN a.1 (maskL (C.getD i [])),(foldB (goStep t (xorN a.1 (maskL (C.getD i []))) (M.getD i [])) (List.range (M.getD i []).length) a.2).1),(foldB (goStep t (xorN a.1 (maskL (C.getD i []))) (M.getD i [])) (List.range (M.getD i []).length) a.2).2)
 else(a,false)
theorem plStep_ok {t p:DTrap} {C M:List (List Int)} {i:Nat} {a:Nat×List Int}(h:PlayI t p i a)(hT:0<p.turns):
 (plStep t C M a i).2=(playStep C M p i).2∧((playStep C M p i).2=true→PlayI t (playStep C M p i).1 (i+1) (plStep t C M a i).1):=by
 have ho:=h.ok
 have h3:=ho.ol
 unfold plStep playStep
 generalize C.getD i []=c
 generalize M.getD i []=m
 rw[bits_is,←h.ha,←h.gg,←h.gl]
 by_cases hc:isChangeB p.hands p.gates.length c=true
 rotate_left
 ·rw[if_neg (fun e=>hc e.1),if_neg (fun e=>hc e.1)]
  exact⟨rfl,fun e=>absurd e (by simp)⟩
 obtain⟨hcm,hc5,hmk⟩:=change_all ho hc
 have hfl:flipG p.gates c=openG (xorN a.1 (maskL c)) t.gates:=by
  rw[h.gates,open_flip (by rw[←h.gg];exact ho.gl) a.1 hc5]
 by_cases hm:m.length=p.groups.length
 rotate_left
 ·rw[if_neg (fun e=>hm e.2),if_neg (fun e=>hm (movesT_len (mem_movesT.2 e.2)))]
  exact⟨rfl,fun e=>absurd e (by simp)⟩
 have hx:xorN a.1 (maskL c)<32:=Nat.xor_lt_two_pow (n:=5) h.o hmk
 obtain⟨g1,g2⟩:=go_are (t:=t) (p:=changedT p c) (o:=xorN a.1 (maskL c)) (m:=m) (n:=a.2) hfl h.ch h.at' h.n h3 hm
 rw[if_pos ⟨hc,hm⟩]
 cases ha:areB (changedT p c) m
 ·rw[if_neg (fun e=>by simp at e)]
  refine⟨?_,fun e=>absurd e (by simp)⟩
  simp only
  rw[Bool.eq_false_iff]
  intro e
  rw[g1,ha]at e;cases e
 ·rw[if_pos ⟨hc,rfl⟩]
  refine⟨?_,fun _=> ?_⟩
  ·simp only;rw[g1,ha]
  ·have hb:=behind_ok ho hT (mem_movesT.2 ha)
   refine⟨hb,hfl,h.ch,h.ha,?_,?_,?_,?_,?_,hx,?_⟩
   ·have:=h.tu;simp only[behindT,movedT,changedT];omega
   ·rw[g2 ha]
    have e1:posL (behindT p c m)=m:=posL_moved (t:=changedT p c) hm
    have e2:(behindT p c m).groups.length=m.length:=by simp[behindT,movedT,changedT,hm]
    rw[e1,e2];simp
   ·have hn:=h.n
    rw[g2 ha];simp only[List.length_append,List.length_drop];omega
   ·simp only[behindT,movedT,changedT];simpa using h.gl
   ·rw[behindT,fishL_moved];exact h.fish
   ·have:=h.gg;simpa [behindT,movedT,changedT]using this
end Go.Proofs.Ytbcjofkfgpbhmaa

/-
  Doors: Play: the turns, as the program walks them.
-/
namespace Go.Proofs.Ytbcjofkfgpbhmaa
open Go.Ab
set_option maxHeartbeats 8000000 in
theorem play_l0(t:DTrap)(h:DoorOk t)(C M:List (List Int))(hlm:C.length=M.length)(hT:(C.length:Int)≤t.turns)(hc: ∀x∈C,x.length≤40)(hm: ∀x∈M,x.length≤40)(T1:Int)(a0:Nat×List Int)(h0:PlayI t t 0 a0)(s:Stk):
 ∃g:PlayH 0,Run T b56l0 [(1, .sl .no 1 (es cInts C)),(2, .sl .no 1 (es cInts M)),(3, .ptr s.length 48 0),(6, .ptr s.length 96 0),(8, .ptr s.length 416 0),(9, .ptr s.length 144 0),(40, .sl .no 1 (es cInts C)),(41,i64 C.length),(42,i64 0)] (playFr t s.length T1 a0.1 a0.2::s)=
  if (foldB (plStep t C M) (List.range C.length) a0).2=true then some (.exit 0,[(1, .sl .no 1 (es cInts C)),(2, .sl .no 1 (es cInts M)),(3, .ptr s.length 48 0),(6, .ptr s.length 96 0),(8, .ptr s.length 416 0),(9, .ptr s.length 144 0),(40, .sl .no 1 (es cInts C)),(41,i64 C.length),(42,i64 C.length),(43, .bool false)],playFr t s.length T1 (foldB (plStep t C M) (List.range C.length) a0).1.1 (foldB (plStep t C M) (List.range C.length) a0).1.2::s)
  else some (.ret,[(6, .ptr s.length 96 0),(7,i64 1)],g.1::s):=by
 have htu:=h.tu
 have hol:=h.ol
 refine loop_list_e (T:=Go.Proofs.Ytbcjofkfgpbhmaa.T) (γ:=PlayH 0) (live:=[1,2,3,6,8,9,40,41,42]) (keep:=[48,96,144,416,1416]) (b:=d56l0) (List.range C.length) (fun k (a:Nat×List Int)=> ∃p,PlayI t p k a)
  (fun k _=>[(1, .sl .no 1 (es cInts C)),(2, .sl .no 1 (es cInts M)),(3, .ptr s.length 48 0),(6, .ptr s.length 96 0),(8, .ptr s.length 416 0),(9, .ptr s.length 144 0),(40, .sl .no 1 (es cInts C)),(41,i64 C.length),(42,i64 (k:Nat))]) (fun _ a=>playFr t s.length T1 a.1 a.2::s)
  (plStep t C M) (fun g _=>(.ret,[(6, .ptr s.length 96 0),(7,i64 1)],g.1::s))
  (fun a=>(.exit 0,[(1, .sl .no 1 (es cInts C)),(2, .sl .no 1 (es cInts M)),(3, .ptr s.length 48 0),(6, .ptr s.length 96 0),(8, .ptr s.length 416 0),(9, .ptr s.length 144 0),(40, .sl .no 1 (es cInts C)),(41,i64 C.length),(42,i64 C.length),(43, .bool false)],playFr t s.length T1 a.1 a.2::s))
  (by simp) (by simp) ?_ ?_ a0 ⟨t,h0⟩ _ _ (by simp) (by simp)
 ·rintro k ⟨o,n⟩ hk ⟨p,hp⟩
  simp only[List.length_range]at hk
  simp only[List.getElem_range]
  have hkM:k<M.length:=by omega
  have hkM2:(k:Int)<M.length:=by omega
  have hk2:(k:Int)<C.length:=by omega
  have hptu:=hp.tu
  have hT0:0<p.turns:=by omega
  have hon:=hp.o
  have hnn:=hp.n
  simp only at hon hnn
  have hcl:=hc _ (List.getElem_mem hk)
  have hml:=hm _ (List.getElem_mem hkM)
  have e1:C.getD k []=C[k]:=by simp[List.getD,hk]
  have e2:M.getD k []=M[k]:=by simp[List.getD,hkM]
  obtain⟨q1,q2⟩:=plStep_ok (C:=C) (M:=M) hp hT0
  have q3:(plStep t C M (o,n) k).2=true→ ∃p',PlayI t p' (k+1) (plStep t C M (o,n) k).1:=fun e=>⟨_,q2 (by rw[←q1];exact e)⟩
  clear q1 q2
  have hbi:=fun lab=>e_bitsOf t h.gl (chB t) (.mp (.ptr s.length 1416 0)) C[k] (by omega) s.length 416 (playFr t s.length T1 o n::s) (by simp) (by simp) lab
  have hst:plStep t C M (o,n) k=if (bitsR t C[k]).2=true∧M[k].length=t.groups.length then((xorN o (maskL C[k]),(foldB (goStep t (xorN o (maskL C[k])) M[k]) (List.range M[k].length) n).1),(foldB (goStep t (xorN o (maskL C[k])) M[k]) (List.range M[k].length) n).2)else((o,n),false):=by unfold plStep;rw[e1,e2]
  have hmk:(bitsR t C[k]).2=true→maskL C[k]<32:=fun e=>(change_all h (by rw[←bits_is];exact e)).2.2
  have hbm:(bitsR t C[k]).2=true→(bitsR t C[k]).1=(maskL C[k]:Nat):=fun e=>bits_mk (by rw[←bits_is];exact e)
  have hin:=fun(e:(bitsR t C[k]).2=true) (el:M[k].length=t.groups.length)=>play_l1 t h C M T1 (xorN o (maskL C[k])) (Nat.xor_lt_two_pow (n:=5) hon (hmk e)) k M[k] n el hnn s
  rw[hst]at q3⊢
  clear hst e1 e2
  generalize hx:C[k]=x at*
  generalize hy:M[k]=y at*
  generalize maskL x=mk at*
  obtain⟨bq,hbq⟩: ∃bq,bitsR t x=bq:=⟨_,rfl⟩
  obtain⟨b1,b2⟩:=bq
  rw[hbq]at hbi q3 hmk hbm hin⊢
  simp only at hbi q3 hmk hbm hin⊢
  cases b2
  ·simp only[Bool.false_eq_true,false_and,if_false]
   refine⟨fun hb=>absurd hb (by simp),fun _=>⟨⟨playFr t s.length T1 o n,rfl⟩,?_⟩⟩
   simp (maxSteps:=1000000) (disch:=first|omega|assumption|decide +kernel|(simp;done)|(simp;omega)|fail) [run_drawnK,orSlow_none,hk,hk2,hkM,hkM2,hx,hy,hbi,zeroT]
  ·by_cases hyl:y.length=t.groups.length
   rotate_left
   ·have hyl': ¬(y.length:Int)=t.groups.length:=by omega
    simp only[hyl,and_false,if_false]
    refine⟨fun hb=>absurd hb (by simp),fun _=>⟨⟨playFr t s.length T1 o n,rfl⟩,?_⟩⟩
    simp (maxSteps:=1000000) (disch:=first|omega|assumption|decide +kernel|(simp;done)|(simp;omega)|fail) [run_drawnK,orSlow_none,hk,hk2,hkM,hkM2,hx,hy,hbi,hyl',zeroT]
   ·obtain⟨⟨g,hg⟩,hl1⟩:=hin rfl hyl
    have hm5:=hmk rfl
    have hb1:=hbm rfl
    subst hb1
    have hxr:=bxor (a:=o) (b:=mk) (by omega) (by omega)
    have hyl':(y.length:Int)=t.groups.length:=by omega
    rw[if_pos ⟨rfl,hyl⟩]at q3⊢
    simp only at q3 hl1⊢
    generalize xorN o mk=o2 at*
    generalize foldB (goStep t o2 y) (List.range y.length) n=r at*
    obtain⟨n2,b⟩:=r
    simp only at q3 hl1⊢
    cases b
    ·refine⟨fun hb=>absurd hb (by simp),fun _=>⟨⟨g,hg⟩,?_⟩⟩
     simp only[Bool.false_eq_true,if_false]at hl1
     rw[hyl']at hl1
     simp (maxSteps:=1000000) (disch:=first|omega|assumption|decide +kernel|(simp;done)|(simp;omega)|fail) [run_drawnK,orSlow_none,hk,hk2,hkM,hkM2,hx,hy,hbi,hyl',hxr,-bin_xor,hl1,hg]
    ·simp only[if_true]at hl1
     rw[hyl']at hl1
     refine⟨fun _=>⟨?_,q3 rfl⟩,fun hb=>absurd hb (by simp)⟩
     simp (maxSteps:=1000000) (disch:=first|omega|assumption|decide +kernel|(simp;done)|(simp;omega)|fail) [run_drawnK,orSlow_none,hk,hk2,hkM,hkM2,hx,hy,hbi,hyl',hxr,-bin_xor,hl1,wk k (by omega)]
 ·intro a ha
  simp
end Go.Proofs.Ytbcjofkfgpbhmaa

/-
  Doors: Play: the program's turns are the reference's.
-/
namespace Go.Proofs.Ytbcjofkfgpbhmaa
open Go.Ab
theorem play_rel {t:DTrap} {C M:List (List Int)}: ∀(k s:Nat) (p:DTrap) (a:Nat×List Int),PlayI t p s a→((s+k:Nat):Int)≤t.turns→
 (foldB (plStep t C M) (List.range' s k) a).2=(foldB (playStep C M) (List.range' s k) p).2∧((foldB (playStep C M) (List.range' s k) p).2=true→PlayI t (foldB (playStep C M) (List.range' s k) p).1 (s+k) (foldB (plStep t C M) (List.range' s k) a).1)
 |0,s,p,a,h,_=>by
   simp only[List.range'_zero,foldB,Nat.add_zero,true_and]
   exact fun _=>h
 |k+1,s,p,a,h,ht=>by
   have hp:=h.tu
   obtain⟨q1,q2⟩:=plStep_ok (C:=C) (M:=M) h (by omega)
   simp only[List.range'_succ,foldB]
   rw[q1]
   by_cases hb:(playStep C M p s).2=true
   ·rw[if_pos hb,if_pos hb]
    have ih:=play_rel (C:=C) (M:=M) k (s+1) _ _ (q2 hb) (by omega)
    rw[show s+1+k=s+(k+1)by omega]at ih
    exact ih
   ·rw[if_neg hb,if_neg hb]
    exact⟨q1,fun e=>absurd e hb⟩
theorem playF_rel {t:DTrap} {C M:List (List Int)} {a:Nat×List Int}(h:PlayI t t 0 a)(ht:(C.length:Int)≤t.turns):
 (foldB (plStep t C M) (List.range C.length) a).2=(playF t C M).2∧((playF t C M).2=true→PlayI t (playF t C M).1 C.length (foldB (plStep t C M) (List.range C.length) a).1):=by
 have:=play_rel (C:=C) (M:=M) C.length 0 t a h (by omega)
 rw[Nat.zero_add]at this
 unfold playF
 rw[List.range_eq_range']
 exact this
theorem playI_0 {t:DTrap}(h:DoorOk t):PlayI t t 0 (gN t,nAt t):=⟨h,(openG_bits t.gates).symm,rfl,rfl,by simp,(nAt_take h).symm,rfl,rfl,rfl,gN_lt h,rfl⟩
def playOut(t:DTrap)(i:Nat)(a:Nat×List Int):DTrap:=⟨t.chambers,t.turns-(i:Nat),t.hands,openG a.1 t.gates,movedG a.2 0 t.groups⟩
theorem playOut_eq {t p:DTrap} {i:Nat} {a:Nat×List Int}(h:PlayI t p i a):playOut t i a=p:=by
 have hl:=h.gl
 have hol:=h.ok.ol
 have hn:=h.n
 have hg:movedG a.2 0 t.groups=p.groups:=by
  apply List.ext_getElem?
  intro j
  rw[movedG_get,Nat.zero_add]
  by_cases hj:j<t.groups.length
  ·have hj2:j<p.groups.length:=by omega
   have e1:(posL p)[j]? =(a.2.take p.groups.length)[j]? :=by rw[h.at']
   have e2:(fishL p)[j]? =(fishL t)[j]? :=by rw[h.fish]
   simp only[posL,fishL,List.getElem?_map,List.getElem?_take,if_pos hj2,List.getElem?_eq_getElem hj,List.getElem?_eq_getElem hj2,Option.map_some,Option.some.injEq,List.getElem?_eq_getElem (show j<a.2.length by omega)]at e1 e2⊢
   have e3:a.2.getD j 0=a.2[j]:=by simp[List.getD,show j<a.2.length by omega]
   rw[if_pos (by omega),e3,←e1,←e2]
  ·rw[List.getElem?_eq_none (by omega),List.getElem?_eq_none (by omega)];rfl
 obtain⟨ch,tu,ha,ga,gr⟩:=p
 simp only[playOut,DTrap.mk.injEq]
 exact⟨h.ch.symm,h.tu.symm,h.ha.symm,h.gates.symm,hg⟩
end Go.Proofs.Ytbcjofkfgpbhmaa

/-
  Doors: Play: groups and gates are written through.
-/
namespace Go.Proofs.Ytbcjofkfgpbhmaa
open Go.Ab
abbrev plFr(t:DTrap)(d:Nat)(tu T1:Int)(o:Nat)(n:List Int)(gs:List DGate)(rs:List DGroup):Ab.Loc:=[(48, .cell [i64 t.chambers,i64 tu,i64 t.hands, .asl d 1728 3 t.gates.length 0 t.gates.length, .asl d 1776 2 t.groups.length 0 t.groups.length]),(96, .cell zeroT),(144, .cell (sceneL T1 (o:Nat) n)),(1728, .arr 3 (es cGate gs)),(1776, .arr 2 (es cGroup rs))]
theorem moved_take {n:List Int} {gs:List DGroup}:movedG (n.take gs.length) 0 gs=movedG n 0 gs:=by
 apply List.ext_getElem?
 intro i
 simp only[movedG_get,Nat.zero_add]
 by_cases hi:i<gs.length
 ·rw[List.getElem?_eq_getElem hi]
  simp only[Option.map_some,Option.some.injEq,List.length_take,List.getD_eq_getElem?_getD,List.getElem?_take,if_pos hi]
  by_cases hn:i<n.length
  ·rw[if_pos (by omega),if_pos hn]
  ·rw[if_neg (by omega),if_neg hn]
 ·rw[List.getElem?_eq_none (by omega)];rfl
set_option maxHeartbeats 8000000 in
theorem play_l3(t:DTrap)(h:DoorOk t)(tu T1:Int)(o:Nat)(x0 x1 x2:Int)(gs:List DGate)(s:Stk):
 Run T b56l3 [(3, .ptr s.length 48 0),(6, .ptr s.length 96 0),(9, .ptr s.length 144 0),(134,i64 t.groups.length),(135,i64 0)] (plFr t s.length tu T1 o [x0,x1,x2] gs t.groups::s)=
  some (.exit 6,[(3, .ptr s.length 48 0),(6, .ptr s.length 96 0),(9, .ptr s.length 144 0),(134,i64 t.groups.length),(135,i64 t.groups.length),(136, .bool false)],plFr t s.length tu T1 o [x0,x1,x2] gs (movedG [x0,x1,x2] 0 t.groups)::s):=by
 have hol:=h.ol
 have hml:([x0,x1,x2].take t.groups.length).length=t.groups.length:=by simp;omega
 have key:=loop_fold (T:=Go.Proofs.Ytbcjofkfgpbhmaa.T) (live:=[3,6,9,134,135]) (keep:=[48,96,144,1728,1776]) (b:=d56l3) (List.range ([x0,x1,x2].take t.groups.length).length) (fun _ (rs:List DGroup)=>rs.length=t.groups.length) (moveStep ([x0,x1,x2].take t.groups.length))
  (fun k _=>[(3, .ptr s.length 48 0),(6, .ptr s.length 96 0),(9, .ptr s.length 144 0),(134,i64 t.groups.length),(135,i64 (k:Nat))]) (fun _ rs=>plFr t s.length tu T1 o [x0,x1,x2] gs rs::s)
  (fun rs=>(.exit 6,[(3, .ptr s.length 48 0),(6, .ptr s.length 96 0),(9, .ptr s.length 144 0),(134,i64 t.groups.length),(135,i64 t.groups.length),(136, .bool false)],plFr t s.length tu T1 o [x0,x1,x2] gs rs::s))
  (by simp) ?_ ?_ ?_ t.groups rfl [(3, .ptr s.length 48 0),(6, .ptr s.length 96 0),(9, .ptr s.length 144 0),(134,i64 t.groups.length),(135,i64 0)] (plFr t s.length tu T1 o [x0,x1,x2] gs t.groups::s) (by simp) (by simp)
 ·rw[moveStep_all,moved_take]at key
  exact key
 ·intro k rs hk hi
  simp only[List.length_range,hml]at hk
  simp only[List.getElem_range]
  have hkl:k<rs.length:=by omega
  have hkm:(k:Int)<t.groups.length:=by omega
  have hset:=fun a ha=>es_setGroup rs k hkl a rs[k].fish rfl ([x0,x1,x2].take t.groups.length) ha
  have hgt:([x0,x1,x2].take t.groups.length).getD k 0=[x0,x1,x2].getD k 0:=by
   simp only[List.getD_eq_getElem?_getD,List.getElem?_take,if_pos hk]
  rw[hgt]at hset
  generalize hG:rs[k]=G at*
  generalize moveStep ([x0,x1,x2].take t.groups.length) rs k=rs' at*
  have hk3: ∀j:Int,j=(k:Int)→j<(t.groups.length:Int):=fun j e=>by omega
  have hk5: ∀j:Nat,j=k→j<t.groups.length:=fun j e=>by omega
  obtain rfl|rfl|rfl:k=0∨k=1∨k=2:=by omega
  ·have hk4:=hk3 0 rfl
   have hk6:=hk5 0 rfl
   have hs1:=hset x0 rfl
   have w1:IntKind.i64.wrap 1=1:=by decide +kernel
   simp (maxSteps:=1000000) (disch:=first|omega|assumption|decide +kernel|(simp;done)|(simp;omega)|fail) [run_drawnK,orSlow_none,hk,hkl,hkm,hk4,hk6,hi,hG,hs1,w1]
  ·have hk4:=hk3 1 rfl
   have hk6:=hk5 1 rfl
   have hs1:=hset x1 rfl
   have w1:IntKind.i64.wrap 2=2:=by decide +kernel
   simp (maxSteps:=1000000) (disch:=first|omega|assumption|decide +kernel|(simp;done)|(simp;omega)|fail) [run_drawnK,orSlow_none,hk,hkl,hkm,hk4,hk6,hi,hG,hs1,w1]
  ·have hk4:=hk3 2 rfl
   have hk6:=hk5 2 rfl
   have hs1:=hset x2 rfl
   have w1:IntKind.i64.wrap 3=3:=by decide +kernel
   simp (maxSteps:=1000000) (disch:=first|omega|assumption|decide +kernel|(simp;done)|(simp;omega)|fail) [run_drawnK,orSlow_none,hk,hkl,hkm,hk4,hk6,hi,hG,hs1,w1]
 ·intro k rs hk hi
  rw[moveStep_len,hi]
 ·intro rs hi
  simp[hml]
end Go.Proofs.Ytbcjofkfgpbhmaa

/-
  Doors: Play: gates are written through.
-/
namespace Go.Proofs.Ytbcjofkfgpbhmaa
open Go.Ab
def setF(o:Nat)(gs:List DGate)(k:Nat):List DGate:=gs.modify k fun g=> {g with op:=o.testBit k}
theorem setF_len(o gs k):(setF o gs k).length=gs.length:=by simp[setF]
theorem setF_all(o:Nat)(gs:List DGate):(List.range gs.length).foldl (setF o) gs=openG o gs:=by
 have key: ∀n,n≤gs.length→ ∀i:Nat,((List.range n).foldl (setF o) gs)[i]? =(gs[i]?).map fun g=>if i<n then {g with op:=o.testBit i}else g:=by
  intro n
  induction n with
  |zero=>intro _ i;cases h:gs[i]? <;>simp[h]
  |succ n ih=>
    intro hn i
    rw[List.range_succ,List.foldl_append]
    simp only[List.foldl_cons,List.foldl_nil]
    rw[setF,List.getElem?_modify,ih (by omega) i]
    cases hg:gs[i]? with
    |none=>simp
    |some g=>
      by_cases e:n=i
      ·subst e;simp
      ·by_cases h1:i<n
       ·simp[e,h1,show i<n+1 by omega]
       ·simp[e,h1,show¬i<n+1 by omega]
 apply List.ext_getElem?
 intro i
 rw[key gs.length (Nat.le_refl _) i]
 unfold openG
 rw[openS_get,Nat.zero_add]
 by_cases hi:i<gs.length
 ·rw[List.getElem?_eq_getElem hi];simp[hi]
 ·rw[List.getElem?_eq_none (by omega)];rfl
theorem es_setF(o:Nat)(gs:List DGate)(j:Nat)(hj:j<gs.length)(v:Bool)(hv:o.testBit j=v):(es cGate gs).set j [i64 gs[j].a,i64 gs[j].b, .bool v]=es cGate (setF o gs j):=by
 apply List.ext_getElem?
 intro i
 simp only[es,setF,List.getElem?_set,List.getElem?_map,List.getElem?_modify,List.length_map]
 by_cases e:j=i
 ·subst e
  subst hv
  simp[hj]
 ·simp[e]
set_option maxHeartbeats 8000000 in
theorem play_l2(t:DTrap)(h:DoorOk t)(tu T1:Int)(o:Nat)(ho:o<32)(n:List Int)(rs:List DGroup)(s:Stk):
 Run T b56l2 [(3, .ptr s.length 48 0),(6, .ptr s.length 96 0),(9, .ptr s.length 144 0),(116,i64 t.gates.length),(117,i64 0)] ([(48, .cell [i64 t.chambers,i64 tu,i64 t.hands, .asl s.length 1728 3 t.gates.length 0 t.gates.length, .asl s.length 1776 2 t.groups.length 0 t.groups.length]),(96, .cell zeroT),(416, .cell (gameV t (chB t) (.mp (.ptr s.length 1416 0)))),(1416, .mp (some 5) []),(144, .cell (sceneL T1 (o:Nat) n)),(1728, .arr 3 (es cGate t.gates)),(1776, .arr 2 (es cGroup rs))]::s)=
  some (.exit 4,[(3, .ptr s.length 48 0),(6, .ptr s.length 96 0),(9, .ptr s.length 144 0),(116,i64 t.gates.length),(117,i64 t.gates.length),(118, .bool false)],plFr t s.length tu T1 o n (openG o t.gates) rs::s):=by
 have hgl:=h.gl
 have key:=loop_fold (T:=Go.Proofs.Ytbcjofkfgpbhmaa.T) (live:=[3,6,9,116,117]) (keep:=[48,96,144,1728,1776]) (b:=d56l2) (List.range t.gates.length) (fun _ (gs:List DGate)=>gs.length=t.gates.length) (setF o)
  (fun k _=>[(3, .ptr s.length 48 0),(6, .ptr s.length 96 0),(9, .ptr s.length 144 0),(116,i64 t.gates.length),(117,i64 (k:Nat))]) (fun _ gs=>plFr t s.length tu T1 o n gs rs::s)
  (fun gs=>(.exit 4,[(3, .ptr s.length 48 0),(6, .ptr s.length 96 0),(9, .ptr s.length 144 0),(116,i64 t.gates.length),(117,i64 t.gates.length),(118, .bool false)],plFr t s.length tu T1 o n gs rs::s))
  (by simp) ?_ ?_ ?_ t.gates rfl [(3, .ptr s.length 48 0),(6, .ptr s.length 96 0),(9, .ptr s.length 144 0),(116,i64 t.gates.length),(117,i64 0)] ([(48, .cell [i64 t.chambers,i64 tu,i64 t.hands, .asl s.length 1728 3 t.gates.length 0 t.gates.length, .asl s.length 1776 2 t.groups.length 0 t.groups.length]),(96, .cell zeroT),(416, .cell (gameV t (chB t) (.mp (.ptr s.length 1416 0)))),(1416, .mp (some 5) []),(144, .cell (sceneL T1 (o:Nat) n)),(1728, .arr 3 (es cGate t.gates)),(1776, .arr 2 (es cGroup rs))]::s) (by simp) (by simp)
 ·rw[setF_all]at key
  exact key
 ·intro k gs hk hi
  simp only[List.length_range]at hk
  simp only[List.getElem_range]
  have hkl:k<gs.length:=by omega
  have hkm:(k:Int)<t.gates.length:=by omega
  have hset:=es_setF o gs k hkl
  have hb1:=bshr (a:=o) (n:=k) (by omega)
  have hle:=shr_le o k
  have hb2:=band (a:=shrN o k) (by omega)
  have hl:=low_le (shrN o k)
  have hlb:=low_bit o k
  generalize shrN o k=sh at*
  generalize lowN sh=y at*
  generalize hG:gs[k]=G at*
  generalize setF o gs k=gs' at*
  by_cases hy:y=1
  ·have hy':(y:Int)=1:=by omega
   have hs1:=hset true (by cases hq:o.testBit k with|true=>rfl|false=>rw[hq]at hlb;simp at hlb;omega)
   simp (maxSteps:=1000000) (disch:=first|omega|assumption|decide +kernel|(simp;done)|(simp;omega)|fail) [run_drawnK,orSlow_none,hk,hkl,hkm,hi,hG,hb1,hb2,hy,hy',hs1,-bin_shr,-bin_and,wk k (by omega)]
  ·have hy': ¬(y:Int)=1:=by omega
   have hs1:=hset false (by rw[←hlb];omega)
   simp (maxSteps:=1000000) (disch:=first|omega|assumption|decide +kernel|(simp;done)|(simp;omega)|fail) [run_drawnK,orSlow_none,hk,hkl,hkm,hi,hG,hb1,hb2,hy,hy',hs1,-bin_shr,-bin_and,wk k (by omega)]
 ·intro k gs hk hi
  rw[setF_len,hi]
 ·intro gs hi
  simp
end Go.Proofs.Ytbcjofkfgpbhmaa

/-
  Doors: Clones of gates and groups.
-/
namespace Go.Proofs.Ytbcjofkfgpbhmaa
open Go.Ab
theorem e_CloneG(l:List DGate)(h1: ¬l=[])(h2:l.length≤40)(F:Ab.Loc)(s:Stk)(lab:Nat)(hF:Loc.get F lab=none):den T 89 [.sl .no 3 (es cGate l)] lab (F::s)=some (.asl s.length lab 3 l.length 0 l.length,Loc.put F lab (.arr 3 (es cGate l))::s):=by
 have e:den T 89 [.sl .no 3 (es cGate l)] lab (F::s)=den T89 89 [.sl .no 3 (es cGate l)] lab (F::s):=by
  obtain⟨x,r,rfl⟩:=List.exists_cons_of_ne_nil h1
  exact clone89_c _ _ _ _ _ _
 rw[e,den_fn w89 _ _ _ rfl]
 simp only[b89]
 simp (maxSteps:=1000000) (disch:=first|omega|assumption|decide +kernel|(simp;done)|(simp;omega)|fail) [h1,h2,hF,appmK_es]
theorem e_CloneG0(F:Ab.Loc)(s:Stk)(lab:Nat):den T 89 [.sl .no 3 []] lab (F::s)=some (.sl .full 3 [],F::s):=by
 rw[clone89_e,den_fn w89e _ _ _ rfl]
 simp only[b89e]
 simp (maxSteps:=1000000) (disch:=first|omega|assumption|decide +kernel|(simp;done)|(simp;omega)|fail) [appK_full_nil]
theorem e_CloneP(l:List DGroup)(h1: ¬l=[])(h2:l.length≤40)(F:Ab.Loc)(s:Stk)(lab:Nat)(hF:Loc.get F lab=none):den T 90 [.sl .no 2 (es cGroup l)] lab (F::s)=some (.asl s.length lab 2 l.length 0 l.length,Loc.put F lab (.arr 2 (es cGroup l))::s):=by
 have e:den T 90 [.sl .no 2 (es cGroup l)] lab (F::s)=den T90 90 [.sl .no 2 (es cGroup l)] lab (F::s):=by
  obtain⟨x,r,rfl⟩:=List.exists_cons_of_ne_nil h1
  exact clone90_c _ _ _ _ _ _
 rw[e,den_fn w90 _ _ _ rfl]
 simp only[b90]
 simp (maxSteps:=1000000) (disch:=first|omega|assumption|decide +kernel|(simp;done)|(simp;omega)|fail) [h1,h2,hF,appmK_es]
theorem e_CloneP0(F:Ab.Loc)(s:Stk)(lab:Nat):den T 90 [.sl .no 2 []] lab (F::s)=some (.sl .full 2 [],F::s):=by
 rw[clone90_e,den_fn w90e _ _ _ rfl]
 simp only[b90e]
 simp (maxSteps:=1000000) (disch:=first|omega|assumption|decide +kernel|(simp;done)|(simp;omega)|fail) [appK_full_nil]
end Go.Proofs.Ytbcjofkfgpbhmaa

/-
  Doors: Play: the same where a trap has no gates or no groups.
-/
namespace Go.Proofs.Ytbcjofkfgpbhmaa
open Go.Ab
abbrev plFrA(t:DTrap)(d:Nat)(tu T1:Int)(o:Nat)(n:List Int)(gs:List DGate):Ab.Loc:=[(48, .cell [i64 t.chambers,i64 tu,i64 t.hands, .asl d 1728 3 t.gates.length 0 t.gates.length, .sl .full 2 []]),(96, .cell zeroT),(144, .cell (sceneL T1 (o:Nat) n)),(1728, .arr 3 (es cGate gs))]
abbrev plFrB(t:DTrap)(d:Nat)(tu T1:Int)(o:Nat)(n:List Int)(rs:List DGroup):Ab.Loc:=[(48, .cell [i64 t.chambers,i64 tu,i64 t.hands, .sl .full 3 [], .asl d 1776 2 t.groups.length 0 t.groups.length]),(96, .cell zeroT),(144, .cell (sceneL T1 (o:Nat) n)),(1776, .arr 2 (es cGroup rs))]
abbrev plFrC(t:DTrap)(tu T1:Int)(o:Nat)(n:List Int):Ab.Loc:=[(48, .cell [i64 t.chambers,i64 tu,i64 t.hands, .sl .full 3 [], .sl .full 2 []]),(96, .cell zeroT),(144, .cell (sceneL T1 (o:Nat) n))]
set_option maxHeartbeats 8000000 in
theorem play_l2e(t:DTrap)(h:DoorOk t)(tu T1:Int)(o:Nat)(ho:o<32)(n:List Int)(s:Stk):
 Run T b56l2 [(3, .ptr s.length 48 0),(6, .ptr s.length 96 0),(9, .ptr s.length 144 0),(116,i64 t.gates.length),(117,i64 0)] ([(48, .cell [i64 t.chambers,i64 tu,i64 t.hands, .asl s.length 1728 3 t.gates.length 0 t.gates.length, .sl .full 2 []]),(96, .cell zeroT),(416, .cell (gameV t (chB t) (.mp (.ptr s.length 1416 0)))),(1416, .mp (some 5) []),(144, .cell (sceneL T1 (o:Nat) n)),(1728, .arr 3 (es cGate t.gates))]::s)=
  some (.exit 4,[(3, .ptr s.length 48 0),(6, .ptr s.length 96 0),(9, .ptr s.length 144 0),(116,i64 t.gates.length),(117,i64 t.gates.length),(118, .bool false)],plFrA t s.length tu T1 o n (openG o t.gates)::s):=by
 have hgl:=h.gl
 have key:=loop_fold (T:=Go.Proofs.Ytbcjofkfgpbhmaa.T) (live:=[3,6,9,116,117]) (keep:=[48,96,144,1728,1776]) (b:=d56l2) (List.range t.gates.length) (fun _ (gs:List DGate)=>gs.length=t.gates.length) (setF o)
  (fun k _=>[(3, .ptr s.length 48 0),(6, .ptr s.length 96 0),(9, .ptr s.length 144 0),(116,i64 t.gates.length),(117,i64 (k:Nat))]) (fun _ gs=>plFrA t s.length tu T1 o n gs::s)
  (fun gs=>(.exit 4,[(3, .ptr s.length 48 0),(6, .ptr s.length 96 0),(9, .ptr s.length 144 0),(116,i64 t.gates.length),(117,i64 t.gates.length),(118, .bool false)],plFrA t s.length tu T1 o n gs::s))
  (by simp) ?_ ?_ ?_ t.gates rfl [(3, .ptr s.length 48 0),(6, .ptr s.length 96 0),(9, .ptr s.length 144 0),(116,i64 t.gates.length),(117,i64 0)] ([(48, .cell [i64 t.chambers,i64 tu,i64 t.hands, .asl s.length 1728 3 t.gates.length 0 t.gates.length, .sl .full 2 []]),(96, .cell zeroT),(416, .cell (gameV t (chB t) (.mp (.ptr s.length 1416 0)))),(1416, .mp (some 5) []),(144, .cell (sceneL T1 (o:Nat) n)),(1728, .arr 3 (es cGate t.gates))]::s) (by simp) (by simp)
 ·rw[setF_all]at key
  exact key
 ·intro k gs hk hi
  simp only[List.length_range]at hk
  simp only[List.getElem_range]
  have hkl:k<gs.length:=by omega
  have hkm:(k:Int)<t.gates.length:=by omega
  have hset:=es_setF o gs k hkl
  have hb1:=bshr (a:=o) (n:=k) (by omega)
  have hle:=shr_le o k
  have hb2:=band (a:=shrN o k) (by omega)
  have hl:=low_le (shrN o k)
  have hlb:=low_bit o k
  generalize shrN o k=sh at*
  generalize lowN sh=y at*
  generalize hG:gs[k]=G at*
  generalize setF o gs k=gs' at*
  by_cases hy:y=1
  ·have hy':(y:Int)=1:=by omega
   have hs1:=hset true (by cases hq:o.testBit k with|true=>rfl|false=>rw[hq]at hlb;simp at hlb;omega)
   simp (maxSteps:=1000000) (disch:=first|omega|assumption|decide +kernel|(simp;done)|(simp;omega)|fail) [run_drawnK,orSlow_none,hk,hkl,hkm,hi,hG,hb1,hb2,hy,hy',hs1,-bin_shr,-bin_and,wk k (by omega)]
  ·have hy': ¬(y:Int)=1:=by omega
   have hs1:=hset false (by rw[←hlb];omega)
   simp (maxSteps:=1000000) (disch:=first|omega|assumption|decide +kernel|(simp;done)|(simp;omega)|fail) [run_drawnK,orSlow_none,hk,hkl,hkm,hi,hG,hb1,hb2,hy,hy',hs1,-bin_shr,-bin_and,wk k (by omega)]
 ·intro k gs hk hi
  rw[setF_len,hi]
 ·intro gs hi
  simp
set_option maxHeartbeats 8000000 in
theorem play_l3e(t:DTrap)(h:DoorOk t)(tu T1:Int)(o:Nat)(x0 x1 x2:Int)(s:Stk):
 Run T b56l3 [(3, .ptr s.length 48 0),(6, .ptr s.length 96 0),(9, .ptr s.length 144 0),(134,i64 t.groups.length),(135,i64 0)] (plFrB t s.length tu T1 o [x0,x1,x2] t.groups::s)=
  some (.exit 6,[(3, .ptr s.length 48 0),(6, .ptr s.length 96 0),(9, .ptr s.length 144 0),(134,i64 t.groups.length),(135,i64 t.groups.length),(136, .bool false)],plFrB t s.length tu T1 o [x0,x1,x2] (movedG [x0,x1,x2] 0 t.groups)::s):=by
 have hol:=h.ol
 have hml:([x0,x1,x2].take t.groups.length).length=t.groups.length:=by simp;omega
 have key:=loop_fold (T:=Go.Proofs.Ytbcjofkfgpbhmaa.T) (live:=[3,6,9,134,135]) (keep:=[48,96,144,1728,1776]) (b:=d56l3) (List.range ([x0,x1,x2].take t.groups.length).length) (fun _ (rs:List DGroup)=>rs.length=t.groups.length) (moveStep ([x0,x1,x2].take t.groups.length))
  (fun k _=>[(3, .ptr s.length 48 0),(6, .ptr s.length 96 0),(9, .ptr s.length 144 0),(134,i64 t.groups.length),(135,i64 (k:Nat))]) (fun _ rs=>plFrB t s.length tu T1 o [x0,x1,x2] rs::s)
  (fun rs=>(.exit 6,[(3, .ptr s.length 48 0),(6, .ptr s.length 96 0),(9, .ptr s.length 144 0),(134,i64 t.groups.length),(135,i64 t.groups.length),(136, .bool false)],plFrB t s.length tu T1 o [x0,x1,x2] rs::s))
  (by simp) ?_ ?_ ?_ t.groups rfl [(3, .ptr s.length 48 0),(6, .ptr s.length 96 0),(9, .ptr s.length 144 0),(134,i64 t.groups.length),(135,i64 0)] (plFrB t s.length tu T1 o [x0,x1,x2] t.groups::s) (by simp) (by simp)
 ·rw[moveStep_all,moved_take]at key
  exact key
 ·intro k rs hk hi
  simp only[List.length_range,hml]at hk
  simp only[List.getElem_range]
  have hkl:k<rs.length:=by omega
  have hkm:(k:Int)<t.groups.length:=by omega
  have hset:=fun a ha=>es_setGroup rs k hkl a rs[k].fish rfl ([x0,x1,x2].take t.groups.length) ha
  have hgt:([x0,x1,x2].take t.groups.length).getD k 0=[x0,x1,x2].getD k 0:=by
   simp only[List.getD_eq_getElem?_getD,List.getElem?_take,if_pos hk]
  rw[hgt]at hset
  generalize hG:rs[k]=G at*
  generalize moveStep ([x0,x1,x2].take t.groups.length) rs k=rs' at*
  have hk3: ∀j:Int,j=(k:Int)→j<(t.groups.length:Int):=fun j e=>by omega
  have hk5: ∀j:Nat,j=k→j<t.groups.length:=fun j e=>by omega
  obtain rfl|rfl|rfl:k=0∨k=1∨k=2:=by omega
  ·have hk4:=hk3 0 rfl
   have hk6:=hk5 0 rfl
   have hs1:=hset x0 rfl
   have w1:IntKind.i64.wrap 1=1:=by decide +kernel
   simp (maxSteps:=1000000) (disch:=first|omega|assumption|decide +kernel|(simp;done)|(simp;omega)|fail) [run_drawnK,orSlow_none,hk,hkl,hkm,hk4,hk6,hi,hG,hs1,w1]
  ·have hk4:=hk3 1 rfl
   have hk6:=hk5 1 rfl
   have hs1:=hset x1 rfl
   have w1:IntKind.i64.wrap 2=2:=by decide +kernel
   simp (maxSteps:=1000000) (disch:=first|omega|assumption|decide +kernel|(simp;done)|(simp;omega)|fail) [run_drawnK,orSlow_none,hk,hkl,hkm,hk4,hk6,hi,hG,hs1,w1]
  ·have hk4:=hk3 2 rfl
   have hk6:=hk5 2 rfl
   have hs1:=hset x2 rfl
   have w1:IntKind.i64.wrap 3=3:=by decide +kernel
   simp (maxSteps:=1000000) (disch:=first|omega|assumption|decide +kernel|(simp;done)|(simp;omega)|fail) [run_drawnK,orSlow_none,hk,hkl,hkm,hk4,hk6,hi,hG,hs1,w1]
 ·intro k rs hk hi
  rw[moveStep_len,hi]
 ·intro rs hi
  simp[hml]
theorem play_l2s(t:DTrap)(tu T1:Int)(o:Nat)(n:List Int)(rs:List DGroup)(s:Stk):
 Run T b56l2 [(3, .ptr s.length 48 0),(6, .ptr s.length 96 0),(9, .ptr s.length 144 0),(116,i64 0),(117,i64 0)] ([(48, .cell [i64 t.chambers,i64 tu,i64 t.hands, .sl .full 3 [], .asl s.length 1776 2 t.groups.length 0 t.groups.length]),(96, .cell zeroT),(416, .cell (gameV t (chB t) (.mp (.ptr s.length 1416 0)))),(1416, .mp (some 5) []),(144, .cell (sceneL T1 (o:Nat) n)),(1776, .arr 2 (es cGroup rs))]::s)=some (.exit 4,[(3, .ptr s.length 48 0),(6, .ptr s.length 96 0),(9, .ptr s.length 144 0),(116,i64 0),(117,i64 0),(118, .bool false)],plFrB t s.length tu T1 o n rs::s):=by
 refine loop_fold (T:=Go.Proofs.Ytbcjofkfgpbhmaa.T) (live:=[3,6,9,116,117]) (keep:=[48,96,144,1728,1776]) (b:=d56l2) ([]:List Nat) (fun _ (_:Unit)=>True) (fun _ _=>())
  (fun _ _=>[(3, .ptr s.length 48 0),(6, .ptr s.length 96 0),(9, .ptr s.length 144 0),(116,i64 0),(117,i64 0)]) (fun _ _=>plFrB t s.length tu T1 o n rs::s) (fun _=>(.exit 4,[(3, .ptr s.length 48 0),(6, .ptr s.length 96 0),(9, .ptr s.length 144 0),(116,i64 0),(117,i64 0),(118, .bool false)],plFrB t s.length tu T1 o n rs::s))
  (by simp) ?_ ?_ ?_ () trivial _ _ (by simp) (by simp)
 ·intro k a hk;simp at hk
 ·intro k a hk;simp at hk
 ·intro a _;simp
theorem play_l2c(t:DTrap)(tu T1:Int)(o:Nat)(n:List Int)(s:Stk):
 Run T b56l2 [(3, .ptr s.length 48 0),(6, .ptr s.length 96 0),(9, .ptr s.length 144 0),(116,i64 0),(117,i64 0)] ([(48, .cell [i64 t.chambers,i64 tu,i64 t.hands, .sl .full 3 [], .sl .full 2 []]),(96, .cell zeroT),(416, .cell (gameV t (chB t) (.mp (.ptr s.length 1416 0)))),(1416, .mp (some 5) []),(144, .cell (sceneL T1 (o:Nat) n))]::s)=some (.exit 4,[(3, .ptr s.length 48 0),(6, .ptr s.length 96 0),(9, .ptr s.length 144 0),(116,i64 0),(117,i64 0),(118, .bool false)],plFrC t tu T1 o n::s):=by
 refine loop_fold (T:=Go.Proofs.Ytbcjofkfgpbhmaa.T) (live:=[3,6,9,116,117]) (keep:=[48,96,144,1728,1776]) (b:=d56l2) ([]:List Nat) (fun _ (_:Unit)=>True) (fun _ _=>())
  (fun _ _=>[(3, .ptr s.length 48 0),(6, .ptr s.length 96 0),(9, .ptr s.length 144 0),(116,i64 0),(117,i64 0)]) (fun _ _=>plFrC t tu T1 o n::s) (fun _=>(.exit 4,[(3, .ptr s.length 48 0),(6, .ptr s.length 96 0),(9, .ptr s.length 144 0),(116,i64 0),(117,i64 0),(118, .bool false)],plFrC t tu T1 o n::s))
  (by simp) ?_ ?_ ?_ () trivial _ _ (by simp) (by simp)
 ·intro k a hk;simp at hk
 ·intro k a hk;simp at hk
 ·intro a _;simp
theorem play_l3s(t:DTrap)(tu T1:Int)(o:Nat)(n:List Int)(gs:List DGate)(s:Stk):
 Run T b56l3 [(3, .ptr s.length 48 0),(6, .ptr s.length 96 0),(9, .ptr s.length 144 0),(134,i64 0),(135,i64 0)] (plFrA t s.length tu T1 o n gs::s)=some (.exit 6,[(3, .ptr s.length 48 0),(6, .ptr s.length 96 0),(9, .ptr s.length 144 0),(134,i64 0),(135,i64 0),(136, .bool false)],plFrA t s.length tu T1 o n gs::s):=by
 refine loop_fold (T:=Go.Proofs.Ytbcjofkfgpbhmaa.T) (live:=[3,6,9,134,135]) (keep:=[48,96,144,1728,1776]) (b:=d56l3) ([]:List Nat) (fun _ (_:Unit)=>True) (fun _ _=>())
  (fun _ _=>[(3, .ptr s.length 48 0),(6, .ptr s.length 96 0),(9, .ptr s.length 144 0),(134,i64 0),(135,i64 0)]) (fun _ _=>plFrA t s.length tu T1 o n gs::s) (fun _=>(.exit 6,[(3, .ptr s.length 48 0),(6, .ptr s.length 96 0),(9, .ptr s.length 144 0),(134,i64 0),(135,i64 0),(136, .bool false)],plFrA t s.length tu T1 o n gs::s))
  (by simp) ?_ ?_ ?_ () trivial _ _ (by simp) (by simp)
 ·intro k a hk;simp at hk
 ·intro k a hk;simp at hk
 ·intro a _;simp
theorem play_l3c(t:DTrap)(tu T1:Int)(o:Nat)(n:List Int)(s:Stk):
 Run T b56l3 [(3, .ptr s.length 48 0),(6, .ptr s.length 96 0),(9, .ptr s.length 144 0),(134,i64 0),(135,i64 0)] (plFrC t tu T1 o n::s)=some (.exit 6,[(3, .ptr s.length 48 0),(6, .ptr s.length 96 0),(9, .ptr s.length 144 0),(134,i64 0),(135,i64 0),(136, .bool false)],plFrC t tu T1 o n::s):=by
 refine loop_fold (T:=Go.Proofs.Ytbcjofkfgpbhmaa.T) (live:=[3,6,9,134,135]) (keep:=[48,96,144,1728,1776]) (b:=d56l3) ([]:List Nat) (fun _ (_:Unit)=>True) (fun _ _=>())
  (fun _ _=>[(3, .ptr s.length 48 0),(6, .ptr s.length 96 0),(9, .ptr s.length 144 0),(134,i64 0),(135,i64 0)]) (fun _ _=>plFrC t tu T1 o n::s) (fun _=>(.exit 6,[(3, .ptr s.length 48 0),(6, .ptr s.length 96 0),(9, .ptr s.length 144 0),(134,i64 0),(135,i64 0),(136, .bool false)],plFrC t tu T1 o n::s))
  (by simp) ?_ ?_ ?_ () trivial _ _ (by simp) (by simp)
 ·intro k a hk;simp at hk
 ·intro k a hk;simp at hk
 ·intro a _;simp
end Go.Proofs.Ytbcjofkfgpbhmaa

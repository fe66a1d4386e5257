/-
  Doors: reaches, the whole.
-/
import Derived.Test.YtbcjofkfgpbhmaaEq2
set_option linter.unusedSimpArgs false
set_option linter.unusedVariables false
namespace Go.Proofs.Ytbcjofkfgpbhmaa
open Go.Ab
theorem foldB_anyC {α σ:Type}(p:α→Bool)(f:σ→α→σ): ∀(l:List α) (a:σ),∃a',foldB (fun(q:σ×Bool) x=>if p x=true then((f q.1 x,true),false)else((f q.1 x,false),true)) l (a,false)=((a',l.any p),!l.any p)
 |[],a=>⟨a,rfl⟩
 |x::l,a=>by
   simp only[foldB]
   cases hp:p x
   ·obtain⟨a',e⟩:=foldB_anyC p f l (f a x)
    exact⟨a',by simp only[Bool.false_eq_true,if_false,if_true,List.any_cons,hp,Bool.false_or];exact e⟩
   ·exact⟨f a x,by simp[hp]⟩
theorem foldB_not {α σ:Type} {f:σ→α→σ×Bool} {p:α→Bool}: ∀ {l:List α} {a:σ},(∀a x,x∈l→(f a x).2= !p x)→(foldB f l a).2= !l.any p
 |[],a,_=>rfl
 |x::l,a,h=>by
   have hx:=h a x (by simp)
   simp only[foldB,List.any_cons]
   cases hp:p x
   ·rw[hp]at hx
    simp only[Bool.not_false]at hx
    rw[if_pos hx,foldB_not fun a y hy=>h a y (by simp[hy])];rfl
   ·rw[hp]at hx
    simp only[Bool.not_true]at hx
    rw[if_neg (by rw[hx];simp),hx];rfl
theorem reach_fold(t:DTrap)(k o2:Nat)(f)(n:List Int)(K:MemC t):(foldD t o2 n (reachY t k o2 f) (K,false)).1.2=((movesO t o2 n).any fun m=>cO t k o2 (m ++n.drop t.groups.length))∧(foldD t o2 n (reachY t k o2 f) (K,false)).2= !((movesO t o2 n).any fun m=>cO t k o2 (m ++n.drop t.groups.length)):=by
 obtain⟨a',e⟩:=foldB_anyC (fun m=>cO t k o2 (m ++n.drop t.groups.length)) (fun(K:MemC t) m=>f o2 (m ++n.drop t.groups.length) K) (movesO t o2 n) K
 have:foldD t o2 n (reachY t k o2 f) (K,false)=_:=e
 rw[this]
 exact⟨rfl,rfl⟩
def stepC(t:DTrap)(k:Nat)(f:Nat→List Int→MemC t→MemC t)(o:Nat)(n:List Int)(K:MemC t)(c:Nat):MemC t×Bool:=
 ((foldD t (xorN o c) n (reachY t k (xorN o c) f) (K,false)).1.1,(foldD t (xorN o c) n (reachY t k (xorN o c) f) (K,false)).2)
def canK(t:DTrap):Nat→Nat→List Int→MemC t→MemC t
 |0,_,_,K=>K
 |k+1,o,n,K=>if 0<(kvGet K.1 (keyD (k+1) o n)).getD 0 then K else
   if (foldB (stepC t k (canK t k) o n) (cN t) K).2=true then(foldB (stepC t k (canK t k) o n) (cN t) K).1.put (keyD (k+1) o n)else(foldB (stepC t k (canK t k) o n) (cN t) K).1
theorem canK_keep(t:DTrap)(k:Nat): ∀(o:Nat) (n:List Int) (K:MemC t) (key:List Int),(k:Int)<key.headD 0→kvGet (canK t k o n K).1 key=kvGet K.1 key:=by
 induction k with
 |zero=>intro o n K key _;rfl
 |succ k ih=>
   intro o n K key hk
   have hs: ∀(a:MemC t) c,kvGet (stepC t k (canK t k) o n a c).1.1 key=kvGet a.1 key:=fun a c=>by
    refine foldB_inv (I:=fun q:MemC t×Bool=>kvGet q.1.1 key=kvGet a.1 key) (fun q x _ hq=> ?_) rfl
    simp only[reachY]
    split<;>(simp only;rw[ih _ _ _ _ (by omega),hq])
   have hf:kvGet (foldB (stepC t k (canK t k) o n) (cN t) K).1.1 key=kvGet K.1 key:=foldB_inv (I:=fun a:MemC t=>kvGet a.1 key=kvGet K.1 key) (fun a x _ ha=>by rw[hs,ha]) rfl
   simp only[canK]
   split
   ·rfl
   ·split
    ·simp only[Mem.put]
     rw[kvGet_put,if_neg (fun e=>by rw[e]at hk;simp[keyD]at hk),hf]
    ·exact hf
theorem kvIdx_none: ∀ {kvs:List (List Int×Int)} {k:List Int},kvGet kvs k=none→kvIdx kvs k=kvs.length
 |[],_,_=>rfl
 |x::r,k,h=>by
   simp only[kvGet]at h
   split at h
   ·cases h
   ·rename_i hk
    simp only[kvIdx,if_neg hk,kvIdx_none h,List.length_cons]
theorem kvPut_app: ∀ {kvs:List (List Int×Int)} {k:List Int} (v:Int),kvGet kvs k=none→kvPut kvs k v=kvs ++[(k,v)]
 |[],_,_,_=>rfl
 |x::r,k,v,h=>by
   simp only[kvGet]at h
   split at h
   ·cases h
   ·rename_i hk
    simp only[kvPut,if_neg hk,kvPut_app v h,List.cons_append]
theorem kvSet_put {kvs:List (List Int×Int)} {k:List Int}(h:kvGet kvs k=none)(v:Int):kvSet (kvPut kvs k 0) (kvIdx kvs k) v=kvPut kvs k v:=by
 rw[kvPut_app _ h,kvPut_app _ h,kvIdx_none h]
 unfold kvSet
 apply List.ext_getElem?
 intro i
 rw[List.getElem?_modify]
 by_cases hi:kvs.length=i
 ·subst hi;simp
 ·simp only[if_neg hi]
  by_cases hl:i<kvs.length
  ·simp[List.getElem?_append,hl]
  ·rw[List.getElem?_eq_none (by simp;omega),List.getElem?_eq_none (by simp;omega)];rfl
def reachOps:List AOper:=[⟨some 41, .load none (.t 5),none,[],[]⟩,⟨some 42, .load (some 5) (.t 4),none,[],[]⟩,⟨some 43, .mget (some 5) false (.t 41) (.t 42),none,[0,1],[999999]⟩,⟨some 44, .bin .add (.t 43) (.c (i64 1)),none,[2,0,1],[999999]⟩,⟨some 45, .ment (some 5) (.t 41) (.t 42),none,[0,1],[]⟩,⟨some 46, .ext (.t 45) 1,none,[4,0,1],[]⟩,⟨none, .mest (.t 41) (.t 46) (.t 44),none,[3,5,2,4,0,1],[]⟩]
theorem reachOps_pre: ∀(i:Nat) o,reachOps[i]? =some o→ ∀p∈o.pre,p<i:=by
 intro i o h
 match i with
 |0|1|2|3|4|5|6=>simp[reachOps]at h;subst h;simp
 |i+7=>simp[reachOps]at h
structure ReachI(mp:V)(cs:List V)(ix:Int)(p4 p5 p6:V)(done:List Nat)(e:Env):Prop where
 g4:e.get 4=p4
 g5:e.get 5=p5
 g6:e.get 6=p6
 h0:0∈done→e.get 41=mp
 h1:1∈done→e.get 42= .agg cs
 h2:2∈done→e.get 43=i64 0
 h3:3∈done→e.get 44=i64 1
 h4:4∈done→e.get 45= .tup [i64 0,i64 ix]
 h5:5∈done→e.get 46=i64 ix
 c6:6∈done→4∈done
 c26:6∈done→2∈done
set_option maxHeartbeats 4000000 in
theorem reach_region {t:DTrap} {C:List Int} {m:V} {dg lg dm lm L:Nat} {S:List (List Int×Int)→Stk}(G:GameD t C m dg lg dm lm L S)(F:Ab.Loc)(a0 a1 a2 a3 a4:Int)(hF:F.get 80=some (.cell [.mp (.ptr dm lm 0)]))(hF2:F.get 64=some (.cell [i64 a0,i64 a1,i64 a2,i64 a3,i64 a4]))
 (kvs:List (List Int×Int)) (hn0:kvGet kvs [a0,a1,a2,a3,a4]=none) (e0:Env) (x4:e0.get 4= .ptr L 64 0) (x5:e0.get 5= .ptr L 80 0) (x6:e0.get 6= .ptr L 96 0):
 runAny T (Run T) reachOps [6] reachOps [] e0 (F::S kvs)=some ([(6, .ptr L 96 0)],F::S (kvPut kvs [a0,a1,a2,a3,a4] 1)):=by
 have hm: ¬dm=L:=by have:=G.ltm;omega
 have hL:=G.len
 have hidx:=kvIdx_none hn0
 have hset:=kvSet_put hn0 1
 have hlen:(kvPut kvs [a0,a1,a2,a3,a4] 0).length=kvs.length+1:=by rw[kvPut_app _ hn0];simp
 have hnp:kvGet (kvPut kvs [a0,a1,a2,a3,a4] 0) [a0,a1,a2,a3,a4]=some 0:=by rw[kvGet_put,if_pos rfl]
 have f80: ∀K,sget (F::S K) L 80=some (.cell [.mp (.ptr dm lm 0)]):=fun K=>by rw[←hL K,sget_top,hF]
 have f64: ∀K,sget (F::S K) L 64=some (.cell [i64 a0,i64 a1,i64 a2,i64 a3,i64 a4]):=fun K=>by rw[←hL K,sget_top,hF2]
 have fm: ∀K,sget (F::S K) dm lm=some (.mp (some 5) K):=fun K=>by rw[sget_cons,if_neg (by rw[hL];exact hm),G.mem]
 have pm: ∀K K',sput (F::S K) dm lm (.mp (some 5) K')=F::S K':=fun K K'=>by rw[sput_cons,if_neg (by rw[hL];exact hm),G.put]
 rw[hidx]at hset
 generalize hP0:kvPut kvs [a0,a1,a2,a3,a4] 0=P0 at*
 generalize hP1:kvPut kvs [a0,a1,a2,a3,a4] 1=P1 at*
 refine runAny_start (fun done e s=>ReachI (.mp (.ptr dm lm 0)) [i64 a0,i64 a1,i64 a2,i64 a3,i64 a4] (kvs.length:Nat) (.ptr L 64 0) (.ptr L 80 0) (.ptr L 96 0) done e∧s=F::S (if 6∈done then P1 else if 4∈done then P0 else kvs)) _ ?_ ?_ ?_
 ·exact⟨⟨x4,x5,x6,by simp,by simp,by simp,by simp,by simp,by simp,by simp,by simp⟩,by simp⟩
 ·intro done e s ⟨h,hs⟩ hr
  have hall:=ready_all hr reachOps_pre
  simp[Env.only,h.g6,hs,hall 6 (by simp[reachOps])]
 ·intro done e s i o ⟨h,hs⟩ ho hn hp
  match i with
  |0=>
    simp[reachOps]at ho;subst ho
    rw[hs]at*
    refine⟨(41, .mp (.ptr dm lm 0))::e,F::S (if 6∈done then P1 else if 4∈done then P0 else kvs),by simp[h.g5,f80],⟨⟨by simp[h.g4],by simp[h.g5],by simp[h.g6],fun _=>by simp,fun hm=>by have:=h.h1 (by simpa using hm);simpa using this,fun hm=>by have:=h.h2 (by simpa using hm);simpa using this,fun hm=>by have:=h.h3 (by simpa using hm);simpa using this,fun hm=>by have:=h.h4 (by simpa using hm);simpa using this,fun hm=>by have:=h.h5 (by simpa using hm);simpa using this,fun hm=>by have:=h.c6 (by simpa using hm);simp[this],fun hm=>by have:=h.c26 (by simpa using hm);simp[this]⟩,by simp⟩⟩
  |1=>
    simp[reachOps]at ho;subst ho
    rw[hs]at*
    refine⟨(42, .agg [i64 a0,i64 a1,i64 a2,i64 a3,i64 a4])::e,F::S (if 6∈done then P1 else if 4∈done then P0 else kvs),by simp[h.g4,f64],⟨⟨by simp[h.g4],by simp[h.g5],by simp[h.g6],fun hm=>by have:=h.h0 (by simpa using hm);simpa using this,fun _=>by simp,fun hm=>by have:=h.h2 (by simpa using hm);simpa using this,fun hm=>by have:=h.h3 (by simpa using hm);simpa using this,fun hm=>by have:=h.h4 (by simpa using hm);simpa using this,fun hm=>by have:=h.h5 (by simpa using hm);simpa using this,fun hm=>by have:=h.c6 (by simpa using hm);simp[this],fun hm=>by have:=h.c26 (by simpa using hm);simp[this]⟩,by simp⟩⟩
  |2=>
    simp[reachOps]at ho;subst ho
    have m0:=hp 0 (by simp)
    have m1:=hp 1 (by simp)
    have hg0:(kvGet (if 6∈done then P1 else if 4∈done then P0 else kvs) [a0,a1,a2,a3,a4]).getD 0=0:=by
     have n6:6∉done:=fun h6=>hn (h.c26 h6)
     rw[if_neg n6]
     split
     ·rw[hnp];rfl
     ·rw[hn0];rfl
    rw[hs]at*
    refine⟨(43,i64 0)::e,F::S (if 6∈done then P1 else if 4∈done then P0 else kvs),by simp[h.h0 m0,h.h1 m1,fm,hg0],⟨⟨by simp[h.g4],by simp[h.g5],by simp[h.g6],fun hm=>by have:=h.h0 (by simpa using hm);simpa using this,fun hm=>by have:=h.h1 (by simpa using hm);simpa using this,fun _=>by simp,fun hm=>by have:=h.h3 (by simpa using hm);simpa using this,fun hm=>by have:=h.h4 (by simpa using hm);simpa using this,fun hm=>by have:=h.h5 (by simpa using hm);simpa using this,fun hm=>by have:=h.c6 (by simpa using hm);simp[this],fun hm=>by have:=h.c26 (by simpa using hm);simp[this]⟩,by simp⟩⟩
  |3=>
    simp[reachOps]at ho;subst ho
    have m0:=hp 0 (by simp)
    have m1:=hp 1 (by simp)
    have m2:=hp 2 (by simp)
    refine⟨(44,i64 1)::e,s,by simp[h.h2 m2,show IntKind.i64.wrap 1=1 by decide],⟨⟨by simp[h.g4],by simp[h.g5],by simp[h.g6],fun hm=>by have:=h.h0 (by simpa using hm);simpa using this,fun hm=>by have:=h.h1 (by simpa using hm);simpa using this,fun hm=>by have:=h.h2 (by simpa using hm);simpa using this,fun _=>by simp,fun hm=>by have:=h.h4 (by simpa using hm);simpa using this,fun hm=>by have:=h.h5 (by simpa using hm);simpa using this,fun hm=>by have:=h.c6 (by simpa using hm);simp[this],fun hm=>by have:=h.c26 (by simpa using hm);simp[this]⟩,by simpa using hs⟩⟩
  |4=>
    simp[reachOps]at ho;subst ho
    have m0:=hp 0 (by simp)
    have m1:=hp 1 (by simp)
    have n6:6∉done:=fun h6=>hn (h.c6 h6)
    rw[if_neg n6,if_neg hn]at hs
    subst hs
    refine⟨(45, .tup [i64 0,i64 (kvs.length:Nat)])::e,F::S P0,by simp[h.h0 m0,h.h1 m1,fm,pm,hn0,hidx,hP0],⟨⟨by simp[h.g4],by simp[h.g5],by simp[h.g6],fun hm=>by have:=h.h0 (by simpa using hm);simpa using this,fun hm=>by have:=h.h1 (by simpa using hm);simpa using this,fun hm=>by have:=h.h2 (by simpa using hm);simpa using this,fun hm=>by have:=h.h3 (by simpa using hm);simpa using this,fun _=>by simp,fun hm=>by have:=h.h5 (by simpa using hm);simpa using this,fun hm=>by have:=h.c6 (by simpa using hm);simp[this],fun hm=>by have:=h.c26 (by simpa using hm);simp[this]⟩,by simp[n6]⟩⟩
  |5=>
    simp[reachOps]at ho;subst ho
    have m0:=hp 0 (by simp)
    have m1:=hp 1 (by simp)
    have m4:=hp 4 (by simp)
    refine⟨(46,i64 (kvs.length:Nat))::e,s,by simp[h.h4 m4],⟨⟨by simp[h.g4],by simp[h.g5],by simp[h.g6],fun hm=>by have:=h.h0 (by simpa using hm);simpa using this,fun hm=>by have:=h.h1 (by simpa using hm);simpa using this,fun hm=>by have:=h.h2 (by simpa using hm);simpa using this,fun hm=>by have:=h.h3 (by simpa using hm);simpa using this,fun hm=>by have:=h.h4 (by simpa using hm);simpa using this,fun _=>by simp,fun hm=>by have:=h.c6 (by simpa using hm);simp[this],fun hm=>by have:=h.c26 (by simpa using hm);simp[this]⟩,by simpa using hs⟩⟩
  |6=>
    simp[reachOps]at ho;subst ho
    have m0:=hp 0 (by simp)
    have m1:=hp 1 (by simp)
    have m2:=hp 2 (by simp)
    have m3:=hp 3 (by simp)
    have m4:=hp 4 (by simp)
    have m5:=hp 5 (by simp)
    rw[if_neg hn,if_pos m4]at hs
    subst hs
    refine⟨e,F::S P1,by simp[h.h0 m0,h.h5 m5,h.h3 m3,fm,pm,hlen,hset,show(kvs.length:Int)<(kvs.length:Int)+1 by omega],⟨⟨by simp[h.g4],by simp[h.g5],by simp[h.g6],fun hm=>by have:=h.h0 (by simpa using hm);simpa using this,fun hm=>by have:=h.h1 (by simpa using hm);simpa using this,fun hm=>by have:=h.h2 (by simpa using hm);simpa using this,fun hm=>by have:=h.h3 (by simpa using hm);simpa using this,fun hm=>by have:=h.h4 (by simpa using hm);simpa using this,fun hm=>by have:=h.h5 (by simpa using hm);simpa using this,fun hm=>by simp[m4],fun hm=>by simp[m2]⟩,by simp⟩⟩
  |i+7=>simp[reachOps]at ho
end Go.Proofs.Ytbcjofkfgpbhmaa

/-
  Doors: reaches, the end.
-/
namespace Go.Proofs.Ytbcjofkfgpbhmaa
open Go.Ab
theorem caught_take(n:Nat): ∀(f p:List Int) (k:Nat),f.length≤k→caughtS n f (p.take k)=caughtS n f p:=by
 intro f
 induction f with
 |nil=>intro p k _;simp[caughtS]
 |cons x f ih=>
   intro p k hk
   cases p with
   |nil=>simp
   |cons y p=>
     cases k with
     |zero=>simp at hk
     |succ k=>simp only[List.take_succ_cons,caughtS,ih p k (by simpa using hk)]
abbrev RetG(L:Nat):= {p:Env×Ab.Loc//p.1.get 6= .ptr L 96 0∧p.2.get 96=some (.cell [.bool true])}
instance (L:Nat):Inhabited (RetG L):=⟨⟨([(6, .ptr L 96 0)],[(96, .cell [.bool true])]),rfl,rfl⟩⟩
set_option maxHeartbeats 8000000 in
theorem e_reaches {t:DTrap}(h:DoorOk t)(k:Nat):k≤4→CanD t (chB t) k (canK t k):=by
 induction k with
 |zero=>
   intro _ m dg lg dm lm L S G o n K lab ho hn
   obtain⟨x0,x1,x2,rfl⟩: ∃x0 x1 x2,n=[x0,x1,x2]:=by
    match n,hn.1 with
    |[x0,x1,x2],_=>exact⟨x0,x1,x2,rfl⟩
   have hL:=G.len K.1
   have hd:=G.ltg
   have hc:=fun lab=>e_caught t h.ol h.ch (fun g hg=>(h.groups g hg).2) (chB t) m x0 x1 x2 dg lg ([(48, .cell [.ptr dg lg 0]),(64, .cell [i64 0,i64 (o:Nat),i64 x0,i64 x1,i64 x2]),(80, .cell [.mp (.ptr dm lm 0)]),(96, .cell [.bool false])]::S K.1) (by simp only[List.length_cons];omega) (by rw[sget_cons,if_neg (by omega),G.game]) lab
   have e:cO t 0 o [x0,x1,x2]=decide (0<caughtS t.chambers.toNat (fishL t) [x0,x1,x2]):=by
    unfold cO
    simp only[canG]
    rw[caught_take _ _ _ _ (by simp[fishL])]
   rw[e]
   simp only[canK]
   generalize caughtS t.chambers.toNat (fishL t) [x0,x1,x2]=w at*
   generalize S K.1=X at*
   subst hL
   simp only[sceneL,List.map_cons,List.map_nil,Int.natCast_zero]
   change den T _ [_, .agg [i64 0,_,_,_,_],_] _ _=_
   rw[den_fn t73 _ _ _ rfl]
   simp only[b73]
   simp (maxSteps:=1000000) (disch:=first|omega|assumption|decide +kernel|(simp;done)|(simp;omega)|fail) [hc]
 |succ k ih0=>
   intro hk m dg lg dm lm L S G o n K lab ho hn
   have ih:= @ih0 (by omega)
   obtain⟨x0,x1,x2,rfl⟩: ∃x0 x1 x2,n=[x0,x1,x2]:=by
    match n,hn.1 with
    |[x0,x1,x2],_=>exact⟨x0,x1,x2,rfl⟩
   have hL:=G.len
   have hd:=G.ltg
   have hd2:=G.ltm
   have e1: ¬dg=L:=by omega
   have e2: ¬dm=L:=by omega
   have hga:=G.game
   have hme:=G.mem
   have hpu:=G.put
   have hw:=cKey_key t (k+1) o (n:=[x0,x1,x2]) rfl
   have hT:(((k+1:Nat):Int)=0)=False:=by simp;omega
   have hkk:((k+1:Nat):Int)-1=(k:Nat):=by omega
   have hsc:=cO_succ h k o hn
   have hcl:(chB t).length=(cN t).length:=by simp[chB,natI]
   have hlen:(cN t).length≤32:=by rw[←hcl];exact(chB_len h).2.2
   have key:=loop_list_e (T:=Go.Proofs.Ytbcjofkfgpbhmaa.T) (γ:=RetG L) (live:=[3,4,5,6,25,26,27]) (keep:=[48,64,80,96,256]) (b:=d73l0) (cN t) (fun _ (_:MemC t)=>True)
    (fun j _=>[(3, .ptr L 48 0),(4, .ptr L 64 0),(5, .ptr L 80 0),(6, .ptr L 96 0),(25, .sl .no 1 (es cInt (chB t))),(26,i64 (chB t).length),(27,i64 (j:Nat))])
    (fun _ K=>[(48, .cell [.ptr dg lg 0]),(64, .cell [i64 ((k+1:Nat):Int),i64 (o:Nat),i64 x0,i64 x1,i64 x2]),(80, .cell [.mp (.ptr dm lm 0)]),(96, .cell [.bool false])]::S K.1)
    (stepC t k (canK t k) o [x0,x1,x2])
    (fun g K=>(.ret,g.1.1,g.1.2::S K.1))
    (fun K=>(.exit 0,[(3, .ptr L 48 0),(4, .ptr L 64 0),(5, .ptr L 80 0),(6, .ptr L 96 0),(25, .sl .no 1 (es cInt (chB t))),(26,i64 (chB t).length),(27,i64 (cN t).length),(28, .bool false)],[(48, .cell [.ptr dg lg 0]),(64, .cell [i64 ((k+1:Nat):Int),i64 (o:Nat),i64 x0,i64 x1,i64 x2]),(80, .cell [.mp (.ptr dm lm 0)]),(96, .cell [.bool false])]::S K.1))
    (by simp) (by simp) ?_ ?_ K trivial [(3, .ptr L 48 0),(4, .ptr L 64 0),(5, .ptr L 80 0),(6, .ptr L 96 0),(25, .sl .no 1 (es cInt (chB t))),(26,i64 (chB t).length),(27,i64 0)] ([(48, .cell [.ptr dg lg 0]),(64, .cell [i64 ((k+1:Nat):Int),i64 (o:Nat),i64 x0,i64 x1,i64 x2]),(80, .cell [.mp (.ptr dm lm 0)]),(96, .cell [.bool false])]::S K.1) (by simp[hL,e1,e2]) (by simp[hL,e1,e2])
   ·obtain⟨g,hg⟩:=key
    change Run Go.Proofs.Ytbcjofkfgpbhmaa.T b73l0 _ _=_ at hg
    have hany:(foldB (stepC t k (canK t k) o [x0,x1,x2]) (cN t) K).2= !cO t (k+1) o [x0,x1,x2]:=by
     rw[hsc]
     exact foldB_not fun a c _=>(reach_fold t k (xorN o c) (canK t k) [x0,x1,x2] a).2
    have hkeep:kvGet (foldB (stepC t k (canK t k) o [x0,x1,x2]) (cN t) K).1.1 (keyD (k+1) o [x0,x1,x2])=kvGet K.1 (keyD (k+1) o [x0,x1,x2]):=by
     refine foldB_inv (I:=fun a:MemC t=>kvGet a.1 (keyD (k+1) o [x0,x1,x2])=kvGet K.1 (keyD (k+1) o [x0,x1,x2])) (fun a c _ ha=> ?_) rfl
     rw[←ha]
     refine foldB_inv (I:=fun q:MemC t×Bool=>kvGet q.1.1 (keyD (k+1) o [x0,x1,x2])=kvGet a.1 (keyD (k+1) o [x0,x1,x2])) (fun q x _ hq=> ?_) rfl
     simp only[reachY]
     split<;>(simp only;rw[canK_keep _ _ _ _ _ _ (by simp[keyD];omega),hq])
    have hr: ∀v,kvGet K.1 (keyD (k+1) o [x0,x1,x2])=some v→v=if cO t (k+1) o [x0,x1,x2]=true then 0 else 1:=fun v hv=>by rw[←hw];exact K.2 _ _ hv
    simp only[canK]
    rw[hany]at hg⊢
    obtain⟨⟨ge,gl⟩,hg1,hg2⟩:=g
    simp only at hg1 hg2 hg
    generalize foldB (stepC t k (canK t k) o [x0,x1,x2]) (cN t) K=Q at*
    obtain⟨K2,bb⟩:=Q
    simp only at hkeep hg hany⊢
    simp only[keyD]at hr hkeep⊢
    by_cases hpos:0<(kvGet K.1 [((k+1:Nat):Int),(o:Nat),x0,x1,x2]).getD 0
    ·have hco:cO t (k+1) o [x0,x1,x2]=false:=by
      cases hv:kvGet K.1 [((k+1:Nat):Int),(o:Nat),x0,x1,x2]with
      |none=>rw[hv]at hpos;simp at hpos
      |some v=>
        have:=hr v hv
        rw[hv]at hpos
        simp only[Option.getD_some]at hpos
        cases hc:cO t (k+1) o [x0,x1,x2]
        ·rfl
        ·rw[hc,if_pos rfl]at this;omega
     rw[if_pos hpos,hco]
     simp only[sceneL,List.map_cons,List.map_nil]
     generalize hTT:((k+1:Nat):Int)=T1 at*
     rw[den_fn t73 _ _ _ rfl]
     simp only[b73]
     simp (maxSteps:=1000000) (disch:=first|omega|assumption|decide +kernel|(simp;done)|(simp;omega)|fail) [hL,hga,hme,e1,e2,hT,hpos]
    ·rw[if_neg hpos]
     simp only[sceneL,List.map_cons,List.map_nil]
     cases hco:cO t (k+1) o [x0,x1,x2]
     ·have hnone:kvGet K2.1 [((k+1:Nat):Int),(o:Nat),x0,x1,x2]=none:=by
       rw[hkeep]
       cases hv:kvGet K.1 [((k+1:Nat):Int),(o:Nat),x0,x1,x2]with
       |none=>rfl
       |some v=>
         have:=hr v hv
         rw[hco]at this
         rw[hv]at hpos
         simp at this hpos
         omega
      rw[hco]at hg
      simp only[Bool.not_false,if_true]at hg⊢
      have hput:(K2.put [((k+1:Nat):Int),(o:Nat),x0,x1,x2]).1=kvPut K2.1 [((k+1:Nat):Int),(o:Nat),x0,x1,x2] 1:=by
       show kvPut _ _ (cKey t (keyD (k+1) o [x0,x1,x2]))=_
       rw[hw,hco];rfl
      rw[hput]
      have hreg:=reach_region G [(48, .cell [.ptr dg lg 0]),(64, .cell [i64 ((k+1:Nat):Int),i64 (o:Nat),i64 x0,i64 x1,i64 x2]),(80, .cell [.mp (.ptr dm lm 0)]),(96, .cell [.bool false])] ((k+1:Nat):Int) (o:Nat) x0 x1 x2 rfl rfl K2.1 hnone [(3, .ptr L 48 0),(4, .ptr L 64 0),(5, .ptr L 80 0),(6, .ptr L 96 0),(25, .sl .no 1 (es cInt (chB t))),(26,i64 (chB t).length),(27,i64 (cN t).length),(28, .bool false)] rfl rfl rfl
      simp only[reachOps]at hreg
      generalize hTT:((k+1:Nat):Int)=T1 at*
      generalize chB t=C at*
      rw[den_fn t73 _ _ _ rfl]
      simp only[b73]
      simp (maxSteps:=1000000) (disch:=first|omega|assumption|decide +kernel|(simp;done)|(simp;omega)|fail) [run_each2,hL,hga,hme,e1,e2,hT,hpos,hg,hreg]
     ·rw[hco]at hg
      simp only[Bool.not_true,Bool.false_eq_true,if_false]at hg⊢
      generalize hTT:((k+1:Nat):Int)=T1 at*
      generalize chB t=C at*
      rw[den_fn t73 _ _ _ rfl]
      simp only[b73]
      simp (maxSteps:=1000000) (disch:=first|omega|assumption|decide +kernel|(simp;done)|(simp;omega)|fail) [hL,hga,hme,e1,e2,hT,hpos,hg,hg1,hg2]
   ·intro j K2 hj _
    have hj2:(j:Int)<(chB t).length:=by omega
    have hj3:j<(chB t).length:=by omega
    have hcj:(chB t)[j]=((cN t)[j]:Int):=by simp[chB,natI]
    have hc:=cN_lt h (List.getElem_mem hj)
    generalize (cN t)[j]=c at*
    have ho2:xorN o c<32:=Nat.xor_lt_two_pow (n:=5) ho hc
    have y:=reach_yield t (chB t) k (canK t k) ih G j ((k+1:Nat):Int) (((k+1:Nat):Int)-1) hkk o (xorN o c) ho2 [x0,x1,x2]
    obtain⟨n',hn',hl⟩:=e_loopD t h ho2 hn y (K2,false) rfl
    have hm:=fun(loc:Ab.Loc) lab=>e_moves ((k+1:Nat):Int) o c (by omega) x0 x1 x2 ho hc dg lg lab loc (S K2.1) (by rw[hL];omega)
    obtain⟨r1,r2⟩:=reach_fold t k (xorN o c) (canK t k) [x0,x1,x2] K2
    unfold stepC
    generalize foldD t (xorN o c) [x0,x1,x2] (reachY t k (xorN o c) (canK t k)) (K2,false)=Q at*
    obtain⟨⟨K3,fb⟩,bb⟩:=Q
    simp only at r1 r2 hl⊢
    rw[←r1]at r2
    subst r2
    clear r1 y ih ih0
    simp only[hL]at hm
    simp only[reachSt,reachF,reachE,sceneL,List.map_cons,List.map_nil,Nat.reduceAdd]at hl hm
    generalize xorN o c=o2 at*
    generalize hTT:((k+1:Nat):Int)=T1 at*
    generalize chB t=C at*
    cases fb
    ·refine⟨fun _=>⟨?_,trivial⟩,fun hb=>by simp at hb⟩
     simp only[Bool.false_eq_true,if_false]at hl
     simp (maxSteps:=1000000) (disch:=first|omega|assumption|decide +kernel|(simp;done)|(simp;omega)|fail) [hj,hj2,hj3,hcj,hL,hga,e1,e2,hm,hl,wk j (by omega)]
    ·refine⟨fun hb=>by simp at hb,fun _=>⟨⟨([(3, .ptr L 48 0),(4, .ptr L 64 0),(5, .ptr L 80 0),(6, .ptr L 96 0),(25, .sl .no 1 (es cInt C)),(26,i64 C.length),(27,i64 (j:Nat)),(34, .fn 96 [] [.ptr L 544 0, .ptr L 1544 0, .ptr L 2544 0])],
      [(48, .cell [.ptr dg lg 0]),(64, .cell [i64 T1,i64 (o:Nat),i64 x0,i64 x1,i64 x2]),(80, .cell [.mp (.ptr dm lm 0)]),(96, .cell [.bool true]),(544, .cell [.ptr dg lg 0]),(1544, .cell (i64 (T1-1)::i64 (o2:Nat)::n'.map i64)),(2544, .cell [i64 T1,i64 (o:Nat),i64 x0,i64 x1,i64 x2]),
        (18695, .loop [35] b73l1 b73l2 [] .exhausted (some .ret))]),rfl,rfl⟩,?_⟩⟩
     simp only[Bool.false_eq_true,if_false,if_true]at hl
     simp (maxSteps:=1000000) (disch:=first|omega|assumption|decide +kernel|(simp;done)|(simp;omega)|fail) [hj,hj2,hj3,hcj,hL,hga,e1,e2,hm,hl,wk j (by omega)]
   ·intro K2 _
    simp[hcl]
end Go.Proofs.Ytbcjofkfgpbhmaa

/-
  Doors: Catch.
-/
namespace Go.Proofs.Ytbcjofkfgpbhmaa
open Go.Ab
theorem GameD.topM {t C} {s:Stk} {m:V} {lg lm:Nat} {X:List (List Int×Int)→Ab.Loc}(hg: ∀K,(X K).get lg=some (.cell (gameV t C m)))(hm: ∀K,(X K).get lm=some (.mp (some 5) K))(hp: ∀K K',(X K).put lm (.mp (some 5) K')=X K'):
 GameD t C m s.length lg s.length lm (s.length+1) (fun K=>X K::s) where
 len:=fun K=>by simp
 ltg:=by omega
 ltm:=by omega
 game:=fun K=>by rw[sget_top,hg]
 mem:=fun K=>by rw[sget_top,hm]
 put:=fun K K'=>by rw[sput_top,hp]
def aloneT(t:DTrap):DTrap:= {t with groups:=[⟨0,1⟩]}
theorem alone_ok {t:DTrap}(h:DoorOk t):DoorOk (aloneT t) where
 ch:=h.ch
 tu:=h.tu
 ha:=h.ha
 gl:=h.gl
 ol:=by simp[aloneT]
 gates:=h.gates
 groups:=fun g hg=>by
  simp only[aloneT,List.mem_singleton]at hg
  subst hg
  have:=h.ch
  have e:(aloneT t).chambers=t.chambers:=rfl
  rw[e]
  simp only
  omega
def oneN(p:Int):List Int:=[p,0,0]
def catchV(t:DTrap)(p:Int):Int:=if wO (aloneT t) t.turns.toNat (gN t) (oneN p)=1 then 1 else if cO (aloneT t) t.turns.toNat (gN t) (oneN p)=false then 2 else 3
def posOf(t:DTrap)(g:Int):Int:=(posL t).getD g.toNat 0
def catchR(t:DTrap)(g:Int):Int×Int:=if doorB t=true then(if wiB g 0 (t.groups.length-1)=true then(catchV t (posOf t g),0)else(0,1))else(0,30)
abbrev catchX(t:DTrap)(d:Nat)(p:Int)(K:List (List Int×Int)):Ab.Loc:=[(32, .cell (dV t)),(320, .cell (gameV t (chB t) (.mp (.ptr d 1320 0)))),(1320, .mp (some 5) []),(112, .cell (sceneV t.turns (gN t:Nat) p 0 0)),(464, .cell (gameV (aloneT t) (chB t) (.csl (.ptr d 1464 0) 0))),(1464, .mp (some 5) K),(160, .cell (scene0 t))]
set_option maxHeartbeats 8000000 in
theorem e_Catch(t:DTrap)(hs:ShortD t)(g:Int)(lab s):den T 34 [.agg (dV t),i64 g] lab s=some (.tup [i64 (catchR t g).1,i64 (catchR t g).2],s):=by
 have hgr:=hs.groups
 have w1:IntKind.i64.wrap ((t.groups.length:Int)-1)=(t.groups.length:Int)-1:=wi _ (by omega) (by omega)
 unfold catchR
 cases h:doorB t
 ·have hb:=fun b lab loc s=>e_begin_bad t hs h b lab loc s
  rw[den_fn t34 _ _ _ rfl]
  simp only[b34]
  simp (maxSteps:=1000000) (disch:=first|omega|assumption|decide +kernel|(simp;done)|(simp;omega)|fail) [run_drawnK,orSlow_none,hb,w1]
 ·have ho:=doorB_iff.1 h
  have htu:=ho.tu
  cases hw:wiB g 0 (t.groups.length-1)
  ·have hb:=fun lab loc s=>e_begin_arg t ho lab loc s
   rw[den_fn t34 _ _ _ rfl]
   simp only[b34]
   simp (maxSteps:=1000000) (disch:=first|omega|assumption|decide +kernel|(simp;done)|(simp;omega)|fail) [run_drawnK,orSlow_none,hb,w1,hw]
  ·have hgb:0≤g∧g≤t.groups.length-1:=by simpa [wiB]using hw
   have h3:=ho.ol
   have hb:=fun lab loc k0 k1=>e_begin t ho lab loc s k0 k1
   obtain⟨i,rfl⟩: ∃i:Nat,g=i:=⟨g.toNat,by omega⟩
   have hi:i<t.groups.length:=by omega
   have hp:posOf t (i:Nat)=at0 t i:=by
    rw[at0_get hi];simp[posOf,posL,hi]
   have ha:=alone_ok ho
   have hin:InN (aloneT t) (oneN (at0 t i)):=by
    refine⟨rfl,fun j hj=> ?_⟩
    have:j=0:=by simp[aloneT]at hj;omega
    subst this
    have:=(ho.groups _ (List.getElem_mem hi)).1
    rw[at0_get hi]
    exact this
   have hT:((t.turns.toNat:Nat):Int)=t.turns:=by omega
   have hv:=fun lab=>e_value ha t.turns.toNat (by omega) (GameD.topM (t:=aloneT t) (s:=s) (lg:=464) (lm:=1464) (X:=catchX t s.length (at0 t i)) (fun K=>rfl) (fun K=>rfl) (fun K K'=>rfl)) rfl (gN t) (oneN (at0 t i)) Mem.nil lab (gN_lt ho) hin
   have hr:=fun(K0:List (List Int×Int)) lab=>e_reaches ha t.turns.toNat (by omega) (GameD.topM (t:=aloneT t) (s:=s) (lg:=464) (lm:=848) (m:= .csl (.ptr s.length 1464 0) 0) (X:=fun K=>catchX t s.length (at0 t i) K0 ++[(848, .mp (some 5) K)]) (fun K=>rfl) (fun K=>rfl) (fun K K'=>rfl)) (gN t) (oneN (at0 t i)) Mem.nil lab (gN_lt ho) hin
   rw[hT]at hv hr
   simp only[Bool.false_eq_true,if_true,hp,catchV]
   have hk: ∀(a:List (List Int×Int)→Stk),True:=fun _=>trivial
   generalize wO (aloneT t) t.turns.toNat (gN t) (oneN (at0 t i))=w at*
   generalize cO (aloneT t) t.turns.toNat (gN t) (oneN (at0 t i))=b at*
   generalize valK (aloneT t) _ _ _ _=K1 at*
   generalize canK (aloneT t) _ _ _ _=K2 at*
   simp only[catchX,gN,scene0,sceneV,sceneL,oneN,List.map_cons,List.map_nil,List.cons_append,List.nil_append,Mem.nil_val,gameV,gcap,gmp,aloneT,show es cGroup [(⟨0,1⟩:DGroup)]=[[i64 0,i64 1]]from rfl]at hb hv hr
   generalize gateBits t.gates=o at*
   generalize chB t=C at*
   have hil:(i:Int)<3:=by omega
   have hwa: ∀z:Int,z=(i:Int)→wiB z 0 ((t.groups.length:Int)-1)=true:=fun z e=>by rw[e];exact hw
   by_cases hw1:w=1
   ·obtain rfl|rfl|rfl:i=0∨i=1∨i=2:=by omega
    all_goals
     (rw[den_fn t34 _ _ _ rfl]
      simp only[b34]
      simp (maxSteps:=1000000) (disch:=first|omega|assumption|decide +kernel|(simp;done)|(simp;omega)|fail) [run_drawnK,orSlow_none,w1,hwa,hb,hv,hr,hw1])
   ·cases b<;>(obtain rfl|rfl|rfl:i=0∨i=1∨i=2:=by omega)
    all_goals
     (rw[den_fn t34 _ _ _ rfl]
      simp only[b34]
      simp (maxSteps:=1000000) (disch:=first|omega|assumption|decide +kernel|(simp;done)|(simp;omega)|fail) [run_drawnK,orSlow_none,w1,hwa,hb,hv,hr,hw1])
end Go.Proofs.Ytbcjofkfgpbhmaa

/-
  Doors, the law's helpers: Copy, Turning, ready, all, worth, after.
-/
namespace Go.Proofs.Ytbcjofkfgpbhmaa
open Go.Ab
theorem e_CopyD(t:DTrap)(hs:ShortD t)(lab)(loc:Ab.Loc)(s:Stk)(k0:loc.get lab=none)(k1:loc.get (lab+1000)=none):
 den T 32 [.agg (dV t)] lab (loc::s)=some (.agg [i64 t.chambers,i64 t.turns,i64 t.hands, .asl s.length lab 3 t.gates.length 0 t.gates.length, .asl s.length (lab+1000) 2 t.groups.length 0 t.groups.length],
  (loc.put lab (.arr 3 (es cGate t.gates))).put (lab+1000) (.arr 2 (es cGroup t.groups))::s):=by
 have hg:=hs.gates
 have ho:=hs.groups
 rw[den_fn t32 _ _ _ rfl]
 simp only[b32]
 simp (maxSteps:=1000000) (disch:=first|omega|assumption|decide +kernel|(simp;done)|(simp;omega)|fail) [appmD_es,run_drawnK,orSlow_none,k0,k1]
def turningT(t:DTrap)(k:Int):DTrap:= {t with turns:=k}
theorem e_Turning(t:DTrap)(hs:ShortD t)(k:Int)(lab s):den T 42 [.agg (dV t),i64 k] lab s=some (.agg (dV (turningT t k)),s):=by
 have hc:=fun lab loc s k0 k1=>e_CopyD t hs lab loc s k0 k1
 rw[den_fn t42 _ _ _ rfl]
 simp only[b42]
 simp (maxSteps:=1000000) (disch:=first|omega|assumption|decide +kernel|(simp;done)|(simp;omega)|fail) [hc,turningT]
theorem e_Huge(t:DTrap)(lab s):den T 47 [.agg (dV t)] lab s=some (.bool (decide (40<t.gates.length)||decide (40<t.groups.length)),s):=by
 rw[den_fn t47 _ _ _ rfl]
 simp only[b47]
 by_cases h1:40<t.gates.length
 ·have h1':(40:Int)<t.gates.length:=by omega
  simp (maxSteps:=1000000) (disch:=first|omega|assumption|decide +kernel|(simp;done)|(simp;omega)|fail) [h1,h1']
 ·have h1': ¬(40:Int)<t.gates.length:=by omega
  by_cases h2:40<t.groups.length
  ·have h2':(40:Int)<t.groups.length:=by omega
   simp (maxSteps:=1000000) (disch:=first|omega|assumption|decide +kernel|(simp;done)|(simp;omega)|fail) [h1,h1',h2,h2']
  ·have h2': ¬(40:Int)<t.groups.length:=by omega
   simp (maxSteps:=1000000) (disch:=first|omega|assumption|decide +kernel|(simp;done)|(simp;omega)|fail) [h1,h1',h2,h2']
def hugeB(t:DTrap):Bool:=decide (40<t.gates.length)||decide (40<t.groups.length)
def farD(t:DTrap):Bool:=hugeB t||(decide (4<t.gates.length)||decide (3<t.gates.length)&&decide (2<t.groups.length))&&doorB t
set_option maxHeartbeats 2000000 in
theorem e_Far(t:DTrap)(hs:ShortD t)(lab s):den T 35 [.agg (dV t)] lab s=some (.bool (farD t),s):=by
 have hh:=fun lab s=>e_Huge t lab s
 have hc:=fun lab s=>e_CheckR t hs lab s
 unfold farD
 change∀lab s,_=some (V.bool (hugeB t),s)at hh
 cases h0:hugeB t<;>rw[h0]at hh
 ·by_cases h1:4<t.gates.length
  ·have h1':(4:Int)<t.gates.length:=by omega
   rw[den_fn t35 _ _ _ rfl]
   simp only[b35]
   cases hd:doorB t<;>simp (maxSteps:=1000000) (disch:=first|omega|assumption|decide +kernel|(simp;done)|(simp;omega)|fail) [hh,hc,h1,h1',hd]
  ·have h1': ¬(4:Int)<t.gates.length:=by omega
   by_cases h2:3<t.gates.length
   ·have h2':(3:Int)<t.gates.length:=by omega
    by_cases h3:2<t.groups.length
    ·have h3':(2:Int)<t.groups.length:=by omega
     rw[den_fn t35 _ _ _ rfl]
     simp only[b35]
     cases hd:doorB t<;>simp (maxSteps:=1000000) (disch:=first|omega|assumption|decide +kernel|(simp;done)|(simp;omega)|fail) [hh,hc,h1,h1',h2,h2',h3,h3',hd]
    ·have h3': ¬(2:Int)<t.groups.length:=by omega
     rw[den_fn t35 _ _ _ rfl]
     simp only[b35]
     simp (maxSteps:=1000000) (disch:=first|omega|assumption|decide +kernel|(simp;done)|(simp;omega)|fail) [hh,hc,h1,h1',h2,h2',h3,h3']
   ·have h2': ¬(3:Int)<t.gates.length:=by omega
    rw[den_fn t35 _ _ _ rfl]
    simp only[b35]
    simp (maxSteps:=1000000) (disch:=first|omega|assumption|decide +kernel|(simp;done)|(simp;omega)|fail) [hh,hc,h1,h1',h2,h2']
 ·rw[den_fn t35 _ _ _ rfl]
  simp only[b35]
  simp (maxSteps:=1000000) (disch:=first|omega|assumption|decide +kernel|(simp;done)|(simp;omega)|fail) [hh]
theorem fish_nonneg {t:DTrap}(h:DoorOk t): ∀f∈fishL t,0≤f:=fun f hf=>by
 obtain⟨g,hg,rfl⟩:=List.mem_map.1 hf
 exact(h.groups g hg).2.1
theorem leastT_range {t:DTrap}(h:DoorOk t)(k:Nat)(c:List Int):0≤leastT t k c∧leastT t k c≤sumF (fishL t):=by
 obtain⟨m,_,e⟩:=leastS_mem t.chambers.toNat t.hands.toNat (fishL t) k (flipG t.gates c) (posL t)
 unfold leastT
 rw[e]
 exact⟨worthS_nonneg (fish_nonneg h) _ _ _,worthS_le (fish_nonneg h) _ _ _⟩
end Go.Proofs.Ytbcjofkfgpbhmaa

/-
  Doors, the reference: WaysOf, AreMoves.
-/
namespace Go.Proofs.Ytbcjofkfgpbhmaa
open Go.Ab
def wayG(p c:Int)(g:DGate):Bool:=g.op&&(decide (g.a=p)&&decide (g.b=c)||decide (g.b=p)&&decide (g.a=c))
theorem wayB_eq(gs:List DGate)(p c:Int):wayB gs p c=gs.any (wayG p c):=rfl
theorem foldl_or {α:Type}(f:α→Bool): ∀(l:List α) (b:Bool),l.foldl (fun b x=>b||f x) b=(b||l.any f)
 |[],b=>by simp
 |x::l,b=>by rw[List.foldl_cons,foldl_or f l,List.any_cons,Bool.or_assoc]
set_option maxHeartbeats 8000000 in
theorem e_WaysOf_l1(t:DTrap)(h:DoorOk t)(p c:Int)(out:List Int)(s:Stk):
 Run T b25l1 [(1,i64 p),(2, .ptr s.length 32 0),(5, .sl (.own s.length 81) 1 (es cInt out)),(6,i64 c),(7, .bool false),(8,i64 0)] ([(32, .cell (dV t)),(81, .tok out.length)]::s)=
  some (.exit 2,[(1,i64 p),(2, .ptr s.length 32 0),(5, .sl (.own s.length 81) 1 (es cInt out)),(6,i64 c),(7, .bool (wayB t.gates p c)),(8,i64 t.gates.length),(20, .bool false)],[(32, .cell (dV t)),(81, .tok out.length)]::s):=by
 have key:=loop_fold (T:=Go.Proofs.Ytbcjofkfgpbhmaa.T) (live:=[1,2,5,6,7,8]) (keep:=[32,81,960,976,1056]) (b:=d25l1) t.gates (fun _ _=>True) (fun b g=>b||wayG p c g)
  (fun k b=>[(1,i64 p),(2, .ptr s.length 32 0),(5, .sl (.own s.length 81) 1 (es cInt out)),(6,i64 c),(7, .bool b),(8,i64 (k:Nat))]) (fun _ _=>[(32, .cell (dV t)),(81, .tok out.length)]::s)
  (fun b=>(.exit 2,[(1,i64 p),(2, .ptr s.length 32 0),(5, .sl (.own s.length 81) 1 (es cInt out)),(6,i64 c),(7, .bool b),(8,i64 t.gates.length),(20, .bool false)],[(32, .cell (dV t)),(81, .tok out.length)]::s))
  (by simp) ?_ ?_ ?_ false trivial [(1,i64 p),(2, .ptr s.length 32 0),(5, .sl (.own s.length 81) 1 (es cInt out)),(6,i64 c),(7, .bool false),(8,i64 0)] ([(32, .cell (dV t)),(81, .tok out.length)]::s) (by simp) (by simp)
 ·rw[foldl_or,Bool.false_or,←wayB_eq]at key
  exact key
 ·intro k b hk _
  have hl:=h.gl
  have hk2:(k:Int)<t.gates.length:=by omega
  generalize hG:t.gates[k]=G at*
  have hw:=wk k (by omega)
  cases b
  ·unfold wayG
   cases c1:G.op
   ·simp (maxSteps:=1000000) (disch:=first|omega|assumption|decide +kernel|(simp;done)|(simp;omega)|fail) [hk,hk2,hG,c1,hw]
   ·by_cases c2:G.a=p
    ·by_cases c3:G.b=c
     ·simp (maxSteps:=1000000) (disch:=first|omega|assumption|decide +kernel|(simp;done)|(simp;omega)|fail) [hk,hk2,hG,c1,c2,c3,hw]
     ·by_cases c4:G.b=p
      ·have c5: ¬p=c:=fun e=>c3 (c4.trans e)
       simp (maxSteps:=1000000) (disch:=first|omega|assumption|decide +kernel|(simp;done)|(simp;omega)|fail) [hk,hk2,hG,c1,c2,c3,c4,c5,hw]
      ·simp (maxSteps:=1000000) (disch:=first|omega|assumption|decide +kernel|(simp;done)|(simp;omega)|fail) [hk,hk2,hG,c1,c2,c3,c4,hw]
    ·by_cases c4:G.b=p
     ·by_cases c5:G.a=c
      ·have c6: ¬c=p:=fun e=>c2 (c5.trans e)
       simp (maxSteps:=1000000) (disch:=first|omega|assumption|decide +kernel|(simp;done)|(simp;omega)|fail) [hk,hk2,hG,c1,c4,c5,c6,hw]
      ·simp (maxSteps:=1000000) (disch:=first|omega|assumption|decide +kernel|(simp;done)|(simp;omega)|fail) [hk,hk2,hG,c1,c2,c4,c5,hw]
     ·simp (maxSteps:=1000000) (disch:=first|omega|assumption|decide +kernel|(simp;done)|(simp;omega)|fail) [hk,hk2,hG,c1,c2,c4,hw]
  ·simp only[Bool.true_or]
   simp (maxSteps:=1000000) (disch:=first|omega|assumption|decide +kernel|(simp;done)|(simp;omega)|fail) [hk,hk2,hG,hw]
 ·intro k b hk _;trivial
 ·intro b _
  simp
def wayAdd(gs:List DGate)(p:Int)(a:List Int)(k:Nat):List Int:=if wayB gs p (k:Int)=true then a ++[(k:Int)]else a
theorem wayAdd_all(gs:List DGate)(p:Int)(n:Nat):(List.range n).foldl (wayAdd gs p) []=(rangeI n).filter (wayB gs p):=by
 have: ∀(l:List Nat) (a:List Int),l.foldl (wayAdd gs p) a=a ++(l.map fun(i:Nat)=>(i:Int)).filter (wayB gs p):=by
  intro l
  induction l with
  |nil=>intro a;simp
  |cons x r ih=>
    intro a
    rw[List.foldl_cons,ih]
    unfold wayAdd
    by_cases hx:wayB gs p x=true<;>simp[hx]
 rw[this];rfl
set_option maxHeartbeats 4000000 in
theorem e_WaysOf(t:DTrap)(h:DoorOk t)(p:Int)(lab s):den T 25 [.agg (dV t),i64 p] lab s=some (.sl .no 1 (es cInt (waysS t.chambers.toNat t.gates p)),s):=by
 have hch:=h.ch
 have key:=loop_fold (T:=Go.Proofs.Ytbcjofkfgpbhmaa.T) (live:=[1,2,5,6]) (keep:=[32,81,1056]) (b:=d25l0) (List.range t.chambers.toNat) (fun k (a:List Int)=>a.length≤k) (wayAdd t.gates p)
  (fun k a=>[(1,i64 p),(2, .ptr s.length 32 0),(5, .sl (.own s.length 81) 1 (es cInt a)),(6,i64 (k:Nat))]) (fun _ a=>[(32, .cell (dV t)),(81, .tok a.length)]::s)
  (fun a=>(.exit 0,[(1,i64 p),(2, .ptr s.length 32 0),(5, .sl (.own s.length 81) 1 (es cInt a)),(6,i64 t.chambers.toNat),(13, .bool false)],[(32, .cell (dV t)),(81, .tok a.length)]::s))
  (by simp) ?_ ?_ ?_ [] (by simp) [(5, .sl (.own s.length 81) 1 []),(1,i64 p),(2, .ptr s.length 32 0),(5, .sl .full 1 []),(6,i64 0)] ([(32, .cell (dV t)),(81, .tok 0)]::s) (by simp) (by simp)
 ·rw[wayAdd_all]at key
  unfold waysS
  have hc2:t.chambers=((t.chambers.toNat:Nat):Int):=by omega
  generalize (rangeI t.chambers.toNat).filter (wayB t.gates p)=L at*
  change Run T b25l0 _ _=_ at key
  dsimp only
  cases L with
  |nil=>
    rw[den_fn t25 _ _ _ rfl]
    simp only[b25]
    simp (maxSteps:=1000000) (disch:=first|omega|assumption|decide +kernel|(simp;done)|(simp;omega)|fail) [key]<;>rfl
  |cons x L=>
    rw[if_neg (List.cons_ne_nil x L)]
    generalize hE:es cInt (x::L)=E at*
    have hne: ¬(E.length=0):=by rw[←hE];simp[es]
    have hne2: ¬((E.length:Int)=0):=by omega
    rw[den_fn t25 _ _ _ rfl]
    simp only[b25]
    simp (maxSteps:=1000000) (disch:=first|omega|assumption|decide +kernel|(simp;done)|(simp;omega)|fail) [key,hne,hne2]
 ·intro k a hk hi
  simp only[List.length_range]at hk
  simp only[List.getElem_range]
  have hk2:(k:Int)<t.chambers:=by omega
  have hl1:=e_WaysOf_l1 t h p (k:Nat) a s
  have e0:es cInt a ++[[i64 (k:Nat)]]=es cInt (a ++[(k:Int)]):=by simp[es]
  unfold wayAdd
  cases hw:wayB t.gates p (k:Nat)<;>rw[hw]at hl1
  ·simp (maxSteps:=1000000) (disch:=first|omega|assumption|decide +kernel|(simp;done)|(simp;omega)|fail) [hk2,hl1,wk k (by omega)]
  ·simp (maxSteps:=1000000) (disch:=first|omega|assumption|decide +kernel|(simp;done)|(simp;omega)|fail) [hk2,hl1,e0,appK_own1,wk k (by omega)]
 ·intro k a hk hi
  unfold wayAdd
  split<;>(try simp only[List.length_append,List.length_cons,List.length_nil])<;>omega
 ·intro a hi
  simp only[List.length_range]
  have hc2:((t.chambers.toNat:Nat):Int)=t.chambers:=by omega
  simp (maxSteps:=1000000) (disch:=first|omega|assumption|decide +kernel|(simp;done)|(simp;omega)|fail) [hc2]
end Go.Proofs.Ytbcjofkfgpbhmaa

/-
  Doors, the reference: Changed, Moved.
-/
namespace Go.Proofs.Ytbcjofkfgpbhmaa
open Go.Ab
def flip1(g:DGate):DGate:= {g with op:= !g.op}
def flipAll(c:List Int)(gs:List DGate):List DGate:=c.foldl (fun gs j=>gs.modify j.toNat flip1) gs
theorem flipAll_get: ∀(c:List Int) (gs:List DGate) (i:Nat),c.Pairwise (· < ·)→(∀y∈c,0≤y)→(flipAll c gs)[i]? =(gs[i]?).map fun g=>if (i:Int)∈c then flip1 g else g
 |[],gs,i,_,_=>by simp[flipAll]
 |j::c,gs,i,h,h0=>by
   have ih:=flipAll_get c (gs.modify j.toNat flip1) i (List.pairwise_cons.1 h).2 fun y hy=>h0 y (by simp[hy])
   have hj:=h0 j (by simp)
   have hr:=(List.pairwise_cons.1 h).1
   simp only[flipAll,List.foldl_cons]at ih⊢
   rw[ih,List.getElem?_modify]
   cases hg:gs[i]? with
   |none=>simp
   |some g=>
     by_cases e:j.toNat=i
     ·have e2:(i:Int)=j:=by omega
      have hn: ¬j∈c:=fun hc=>by have:=hr j hc;omega
      simp[e,e2,hn]
     ·have e2: ¬(i:Int)=j:=by omega
      simp[e,e2]
theorem flipAll_eq {c:List Int} {gs:List DGate}(h:c.Pairwise (· < ·))(h0: ∀y∈c,0≤y):flipAll c gs=flipG gs c:=by
 apply List.ext_getElem?
 intro i
 rw[flipAll_get c gs i h h0,flipS_get,Nat.zero_add];rfl
def changedT(t:DTrap)(c:List Int):DTrap:= {t with gates:=flipG t.gates c}
abbrev zeroT:List V:=[i64 0,i64 0,i64 0, .sl .full 3 [], .sl .full 2 []]
@[simp] theorem flipAt_len(gs:List DGate)(j:Nat):(gs.modify j flip1).length=gs.length:=by simp
theorem es_setGate(gs:List DGate)(j:Nat)(hj:j<gs.length)(a b:Int)(o:Bool)(h1:gs[j].a=a)(h2:gs[j].b=b)(h3:gs[j].op=o):(es cGate gs).set j [i64 a,i64 b, .bool (!o)]=es cGate (gs.modify j flip1):=by
 apply List.ext_getElem?
 intro i
 simp only[es,List.getElem?_set,List.getElem?_map,List.getElem?_modify,List.length_map]
 by_cases e:j=i
 ·subst e
  simp[hj,flip1,←h1,←h2,←h3]
 ·simp[e]
abbrev chgF(t:DTrap)(d:Nat)(gs:List DGate)(rs:List DGroup):Ab.Loc:=[(32, .cell (dV t)),(64, .cell zeroT),(144, .arr 3 (es cGate gs)),(1144, .arr 2 (es cGroup rs)),(80, .cell [i64 t.chambers,i64 t.turns,i64 t.hands, .asl d 144 3 t.gates.length 0 t.gates.length, .asl d 1144 2 t.groups.length 0 t.groups.length])]
set_option maxHeartbeats 4000000 in
theorem e_Changed_l(t:DTrap)(hs:ShortD t)(c:List Int)(hc:c.length<1000000000000)(hr: ∀y∈c,0≤y∧y<t.gates.length)(s:Stk):
 Run T b24l0 [(1, .sl .no 1 (es cInt c)),(4, .ptr s.length 64 0),(5, .ptr s.length 80 0),(6,i64 0)] (chgF t s.length t.gates t.groups::s)=
  some (.exit 0,[(1, .sl .no 1 (es cInt c)),(4, .ptr s.length 64 0),(5, .ptr s.length 80 0),(6,i64 c.length),(13, .bool false)],chgF t s.length (flipAll c t.gates) t.groups::s):=by
 have hgl:=hs.gates
 refine loop_fold (T:=Go.Proofs.Ytbcjofkfgpbhmaa.T) (live:=[1,4,5,6]) (keep:=[32,64,80,144,1144]) (b:=d24l0) c (fun _ (gs:List DGate)=>gs.length=t.gates.length) (fun gs j=>gs.modify j.toNat flip1)
  (fun k _=>[(1, .sl .no 1 (es cInt c)),(4, .ptr s.length 64 0),(5, .ptr s.length 80 0),(6,i64 (k:Nat))]) (fun _ gs=>chgF t s.length gs t.groups::s)
  (fun gs=>(.exit 0,[(1, .sl .no 1 (es cInt c)),(4, .ptr s.length 64 0),(5, .ptr s.length 80 0),(6,i64 c.length),(13, .bool false)],chgF t s.length gs t.groups::s))
  (by simp) ?_ ?_ ?_ t.gates rfl [(1, .sl .no 1 (es cInt c)),(4, .ptr s.length 64 0),(5, .ptr s.length 80 0),(6,i64 0)] (chgF t s.length t.gates t.groups::s) (by simp) (by simp)
 ·intro k gs hk hi
  obtain⟨h0,h1⟩:=hr c[k] (List.getElem_mem hk)
  obtain⟨j,hj⟩: ∃j:Nat,c[k]=j:=⟨c[k].toNat,by omega⟩
  have hjl:j<gs.length:=by omega
  have hjl2:j<t.gates.length:=by omega
  have hjt:(c[k]).toNat=j:=by omega
  rw[hjt]
  have hset:=es_setGate gs j hjl gs[j].a gs[j].b gs[j].op rfl rfl rfl
  generalize hG:gs[j]=G at*
  generalize gs.modify j flip1=gs' at*
  have hjl3:(j:Int)<t.gates.length:=by omega
  cases ho:G.op<;>simp only[ho,Bool.not_false,Bool.not_true]at hset
  ·simp (maxSteps:=1000000) (disch:=first|omega|assumption|decide +kernel|(simp;done)|(simp;omega)|fail) [run_drawnK,orSlow_none,hk,hj,hjl,hjl2,hjl3,hi,hG,ho,hset,wk k (by omega)]
  ·simp (maxSteps:=1000000) (disch:=first|omega|assumption|decide +kernel|(simp;done)|(simp;omega)|fail) [run_drawnK,orSlow_none,hk,hj,hjl,hjl2,hjl3,hi,hG,ho,hset,wk k (by omega)]
 ·intro k gs hk hi
  simp[hi]
 ·intro gs hi
  simp
end Go.Proofs.Ytbcjofkfgpbhmaa

/-
  Doors, the reference: Changed, Moved, AreMoves; isTurn, behind.
-/
namespace Go.Proofs.Ytbcjofkfgpbhmaa
open Go.Ab
theorem flipAll_len(c:List Int): ∀gs,(flipAll c gs).length=gs.length:=by
 induction c with
 |nil=>intro gs;rfl
 |cons j c ih=>intro gs;simp only[flipAll,List.foldl_cons]at ih⊢;rw[ih];simp
set_option maxHeartbeats 4000000 in
theorem e_Changed(t:DTrap)(hs:ShortD t)(c:List Int)(hc:c.length<1000000000000)(hr: ∀y∈c,0≤y∧y<t.gates.length)(hp:c.Pairwise (· < ·))(lab s):
 den T 24 [.agg (dV t), .sl .no 1 (es cInt c)] lab s=some (.agg (dV (changedT t c)),s):=by
 have hcp:=fun lab loc s k0 k1=>e_CopyD t hs lab loc s k0 k1
 have hl:=e_Changed_l t hs c hc hr s
 have hlen:=flipAll_len c t.gates
 rw[flipAll_eq hp fun y hy=>(hr y hy).1]at hl hlen
 unfold changedT
 generalize flipG t.gates c=gs at*
 have htk:gs.take t.gates.length=gs:=List.take_of_length_le (by omega)
 rw[den_fn t24 _ _ _ rfl]
 simp only[b24]
 simp (maxSteps:=1000000) (disch:=first|omega|assumption|decide +kernel|(simp;done)|(simp;omega)|fail) [hcp,hl,hlen,htk]
def movedG(m:List Int):Nat→List DGroup→List DGroup
 |_,[]=>[]
 |i,g::r=>(if i<m.length then {g with pos:=m.getD i 0}else g)::movedG m (i+1) r
theorem movedG_get(m:List Int): ∀(i:Nat) (gs:List DGroup) (j:Nat),(movedG m i gs)[j]? =(gs[j]?).map fun g=>if i+j<m.length then {g with pos:=m.getD (i+j) 0}else g
 |_,[],j=>by simp[movedG]
 |i,g::r,0=>by simp[movedG]
 |i,g::r,j+1=>by
   simp only[movedG,List.getElem?_cons_succ,movedG_get m (i+1) r j]
   rw[show i+1+j=i+(j+1)by omega]
@[simp] theorem movedG_len(m:List Int): ∀(i:Nat) (gs:List DGroup),(movedG m i gs).length=gs.length
 |_,[]=>rfl
 |i,g::r=>by simp[movedG,movedG_len m (i+1) r]
def movedT(t:DTrap)(m:List Int):DTrap:= {t with turns:=t.turns-1,groups:=movedG m 0 t.groups}
def moveStep(m:List Int)(gs:List DGroup)(k:Nat):List DGroup:=gs.modify k fun g=> {g with pos:=m.getD k 0}
theorem moveStep_all(m:List Int)(gs:List DGroup):(List.range m.length).foldl (moveStep m) gs=movedG m 0 gs:=by
 have key: ∀n,n≤m.length→ ∀i:Nat,((List.range n).foldl (moveStep m) gs)[i]? =(gs[i]?).map fun g=>if i<n then {g with pos:=m.getD i 0}else g:=by
  intro n
  induction n with
  |zero=>intro _ i;simp
  |succ n ih=>
    intro hn i
    rw[List.range_succ,List.foldl_append]
    simp only[List.foldl_cons,List.foldl_nil]
    unfold moveStep
    rw[List.getElem?_modify]
    have:=ih (by omega) i
    unfold moveStep at this
    rw[this]
    cases hg:gs[i]? with
    |none=>simp
    |some g=>
      by_cases e:n=i
      ·subst e;simp
      ·by_cases h1:i<n
       ·simp[e,h1,show i<n+1 by omega]
       ·simp[e,h1,show¬i<n+1 by omega]
 apply List.ext_getElem?
 intro i
 rw[key m.length (Nat.le_refl _) i,movedG_get]
 simp
theorem es_setGroup(gs:List DGroup)(j:Nat)(hj:j<gs.length)(a f:Int)(h2:gs[j].fish=f)(m:List Int)(ha:m.getD j 0=a):(es cGroup gs).set j [i64 a,i64 f]=es cGroup (moveStep m gs j):=by
 apply List.ext_getElem?
 intro i
 simp only[es,moveStep,List.getElem?_set,List.getElem?_map,List.getElem?_modify,List.length_map]
 by_cases e:j=i
 ·subst e
  subst h2 ha
  simp[hj]
 ·simp[e]
theorem moveStep_len(m gs k):(moveStep m gs k).length=gs.length:=by simp[moveStep]
set_option maxHeartbeats 4000000 in
theorem e_Moved_l(t:DTrap)(hs:ShortD t)(m:List Int)(hm:m.length=t.groups.length)(s:Stk):
 Run T b27l0 [(1, .sl .no 1 (es cInt m)),(4, .ptr s.length 64 0),(5, .ptr s.length 80 0),(6,i64 0)] (chgF t s.length t.gates t.groups::s)=
  some (.exit 0,[(1, .sl .no 1 (es cInt m)),(4, .ptr s.length 64 0),(5, .ptr s.length 80 0),(6,i64 m.length),(13, .bool false)],chgF t s.length t.gates (movedG m 0 t.groups)::s):=by
 have hgl:=hs.groups
 have key:=loop_fold (T:=Go.Proofs.Ytbcjofkfgpbhmaa.T) (live:=[1,4,5,6]) (keep:=[32,64,80,144,1144]) (b:=d27l0) (List.range m.length) (fun _ (gs:List DGroup)=>gs.length=t.groups.length) (moveStep m)
  (fun k _=>[(1, .sl .no 1 (es cInt m)),(4, .ptr s.length 64 0),(5, .ptr s.length 80 0),(6,i64 (k:Nat))]) (fun _ gs=>chgF t s.length t.gates gs::s)
  (fun gs=>(.exit 0,[(1, .sl .no 1 (es cInt m)),(4, .ptr s.length 64 0),(5, .ptr s.length 80 0),(6,i64 m.length),(13, .bool false)],chgF t s.length t.gates gs::s))
  (by simp) ?_ ?_ ?_ t.groups rfl [(1, .sl .no 1 (es cInt m)),(4, .ptr s.length 64 0),(5, .ptr s.length 80 0),(6,i64 0)] (chgF t s.length t.gates t.groups::s) (by simp) (by simp)
 ·rw[moveStep_all]at key
  exact key
 ·intro k gs hk hi
  simp only[List.length_range]at hk
  simp only[List.getElem_range]
  have hkl:k<gs.length:=by omega
  have hkg:k<t.groups.length:=by omega
  have hkm:(k:Int)<t.groups.length:=by omega
  have hg:m.getD k 0=m[k]:=by simp[List.getD,hk]
  have hset:=es_setGroup gs k hkl m[k] gs[k].fish rfl m hg
  generalize hG:gs[k]=G at*
  generalize hx:m[k]=x at*
  generalize moveStep m gs k=gs' at*
  simp (maxSteps:=1000000) (disch:=first|omega|assumption|decide +kernel|(simp;done)|(simp;omega)|fail) [run_drawnK,orSlow_none,hk,hkl,hkg,hkm,hi,hG,hx,hset,wk k (by omega)]
 ·intro k gs hk hi
  rw[moveStep_len,hi]
 ·intro gs hi
  simp
set_option maxHeartbeats 4000000 in
theorem e_Moved(t:DTrap)(hs:ShortD t)(hT:0<t.turns∧t.turns≤4)(m:List Int)(hm:m.length=t.groups.length)(lab s):
 den T 27 [.agg (dV t), .sl .no 1 (es cInt m)] lab s=some (.agg (dV (movedT t m)),s):=by
 have hcp:=fun lab loc s k0 k1=>e_CopyD t hs lab loc s k0 k1
 have hl:=e_Moved_l t hs m hm s
 have hlen:=movedG_len m 0 t.groups
 have hw:IntKind.i64.wrap (t.turns-1)=t.turns-1:=wi _ (by omega) (by omega)
 unfold movedT
 generalize movedG m 0 t.groups=gs at*
 have htk:gs.take t.groups.length=gs:=List.take_of_length_le (by omega)
 rw[den_fn t27 _ _ _ rfl]
 simp only[b27]
 simp (maxSteps:=1000000) (disch:=first|omega|assumption|decide +kernel|(simp;done)|(simp;omega)|fail) [hcp,hl,hlen,hw,htk]
end Go.Proofs.Ytbcjofkfgpbhmaa

/-
  Doors, the law's helpers: isTurn, behind; the chapter's examples.
-/
namespace Go.Proofs.Ytbcjofkfgpbhmaa
open Go.Ab
theorem changed_ok {t:DTrap}(h:DoorOk t)(c:List Int):DoorOk (changedT t c) where
 ch:=h.ch
 tu:=h.tu
 ha:=h.ha
 gl:=by simpa [changedT]using h.gl
 ol:=h.ol
 gates:=fun g hg=>by
  obtain⟨i,hi,rfl⟩:=List.getElem_of_mem hg
  have hi2:i<t.gates.length:=by simpa [changedT]using hi
  have:=flipS_get c 0 t.gates i
  rw[List.getElem?_eq_getElem (by simpa [changedT]using hi),List.getElem?_eq_getElem hi2]at this
  simp only[Option.map_some,Option.some.injEq]at this
  have hg:=h.gates _ (List.getElem_mem hi2)
  have e:(changedT t c).gates[i]=(if ((0+i:Nat):Int)∈c then {t.gates[i]with op:= !t.gates[i].op}else t.gates[i]):=this
  have e2:(changedT t c).chambers=t.chambers:=rfl
  rw[e,e2]
  split<;>exact hg
 groups:=h.groups
theorem posL_moved {t:DTrap} {m:List Int}(hm:m.length=t.groups.length):posL (movedT t m)=m:=by
 apply List.ext_getElem?
 intro i
 simp only[posL,movedT,List.getElem?_map,movedG_get,Nat.zero_add]
 by_cases hi:i<m.length
 ·rw[List.getElem?_eq_getElem (show i<t.groups.length by omega)]
  simp[hi,List.getD]
 ·rw[List.getElem?_eq_none (show t.groups.length≤i by omega),List.getElem?_eq_none (show m.length≤i by omega)];rfl
theorem fishL_moved(t:DTrap)(m:List Int):fishL (movedT t m)=fishL t:=by
 apply List.ext_getElem?
 intro i
 simp only[fishL,movedT,List.getElem?_map,movedG_get,Nat.zero_add]
 cases t.groups[i]? with
 |none=>rfl
 |some g=>
   simp only[Option.map_some]
   split<;>rfl
theorem moved_ok {t:DTrap}(h:DoorOk t)(hT:0<t.turns) {m:List Int}(hm:m∈movesS ((posL t).map (waysS t.chambers.toNat t.gates))):DoorOk (movedT t m) where
 ch:=h.ch
 tu:=by have:=h.tu;simp only[movedT];omega
 ha:=h.ha
 gl:=h.gl
 ol:=by simpa [movedT]using h.ol
 gates:=h.gates
 groups:=fun g hg=>by
  obtain⟨i,hi,rfl⟩:=List.getElem_of_mem hg
  have hi2:i<t.groups.length:=by simpa [movedT]using hi
  obtain⟨h1,h2⟩:=mem_moves.1 hm
  have hl:m.length=t.groups.length:=by simpa [posL]using h1
  have:=movedG_get m 0 t.groups i
  rw[List.getElem?_eq_getElem (by simpa using hi2),List.getElem?_eq_getElem hi2]at this
  simp only[Option.map_some,Option.some.injEq,Nat.zero_add,show i<m.length by omega,if_true]at this
  have hgi:=h.groups _ (List.getElem_mem hi2)
  have hw:=h2 i m[i] t.groups[i].pos (List.getElem?_eq_getElem (by omega)) (by simp[posL,hi2])
  have hr:=waysS_range (by have:=h.ch;omega) hw
  have e:(movedT t m).groups[i]= {t.groups[i]with pos:=m.getD i 0}:=this
  have e2:(movedT t m).chambers=t.chambers:=rfl
  have e3:m.getD i 0=m[i]:=by simp[List.getD,show i<m.length by omega]
  rw[e,e2,e3]
  have:=h.ch
  exact⟨by simp only;omega,hgi.2⟩
def behindT(t:DTrap)(c m:List Int):DTrap:=movedT (changedT t c) m
theorem movesT_len {t:DTrap} {c m:List Int}(hm:m∈movesT t c):m.length=t.groups.length:=by have:=(mem_moves.1 hm).1;simpa [posL]using this
theorem worth_behind {t:DTrap} {c m:List Int}(hm:m∈movesT t c)(k:Nat):worthT (behindT t c m) k=worthS t.chambers.toNat t.hands.toNat (fishL t) k (flipG t.gates c) m:=by
 unfold worthT behindT
 rw[posL_moved (t:=changedT t c) (show m.length=(changedT t c).groups.length from movesT_len (t:=t) (c:=c) hm),fishL_moved];rfl
def exT:DTrap:=⟨3,2,1,[⟨0,1,true⟩,⟨1,2,false⟩],[⟨0,10⟩,⟨1,7⟩]⟩
def exO:DTrap:=changedT exT [0]
theorem ex_ok:doorB exT=true:=by decide
set_option maxHeartbeats 2000000 in
theorem e_ExampleD(lab s):den T 60 [] lab s=some (.tup [.agg (dV exT), .agg (dV exO)],s):=by
 have hr: ∀y∈([0]:List Int),0≤y∧y<exT.gates.length:=by decide
 have h2:=fun lab s=>e_Changed exT (doorB_short ex_ok) [0] (by decide) hr (by decide) lab s
 change∀lab s,den T _ [.agg [i64 3,i64 2,i64 1, .sl .no 3 [[i64 0,i64 1, .bool true],[i64 1,i64 2, .bool false]], .sl .no 2 [[i64 0,i64 10],[i64 1,i64 7]]], .sl .no 1 [[i64 0]]] lab s=some (.agg [i64 3,i64 2,i64 1, .sl .no 3 [[i64 0,i64 1, .bool false],[i64 1,i64 2, .bool false]], .sl .no 2 [[i64 0,i64 10],[i64 1,i64 7]]],s)at h2
 change _=some (V.tup [.agg [i64 3,i64 2,i64 1, .sl .no 3 [[i64 0,i64 1, .bool true],[i64 1,i64 2, .bool false]], .sl .no 2 [[i64 0,i64 10],[i64 1,i64 7]]], .agg [i64 3,i64 2,i64 1, .sl .no 3 [[i64 0,i64 1, .bool false],[i64 1,i64 2, .bool false]], .sl .no 2 [[i64 0,i64 10],[i64 1,i64 7]]]],s)
 rw[den_fn t60 _ _ _ rfl]
 simp only[b60]
 simp (maxSteps:=1000000) (disch:=first|omega|assumption|decide +kernel|(simp;done)|(simp;omega)|fail) [run_drawnK,orSlow_none,h2]
end Go.Proofs.Ytbcjofkfgpbhmaa

/-
  Doors: the chapter's examples, by the program.
-/
namespace Go.Proofs.Ytbcjofkfgpbhmaa
open Go.Ab
theorem ex_worth:worthR exT=(10,0):=by decide +kernel
theorem ex_plan:planR exT=([1],0):=by decide +kernel
theorem ex_after:afterR exT [0]=(7,0):=by decide +kernel
theorem ex_reply:replyR exT [1]=([1,0],0):=by decide +kernel
theorem ex_catch:catchR exT 1=(1,0):=by decide +kernel
theorem ex_worthO:worthR exO=(7,0):=by decide +kernel
theorem exO_ok:doorB exO=true:=by decide +kernel
set_option maxHeartbeats 2000000 in
theorem e_worksD(lab s):den T 17 [] lab s=some (.bool true,s):=by
 have hs:=doorB_short ex_ok
 have hs2:=doorB_short exO_ok
 have h1:=fun lab s=>e_Worth exT hs lab s
 have h2:=fun lab s=>e_Plan exT hs lab s
 have h3:=fun lab s=>e_After exT hs [0] (by decide) lab s
 have h4:=fun lab s=>e_Reply exT hs [1] (by decide) lab s
 have h5:=fun lab s=>e_Catch exT hs 1 lab s
 have h6:=fun lab s=>e_Worth exO hs2 lab s
 have h0:=fun lab s=>e_ExampleD lab s
 rw[ex_worth]at h1
 rw[ex_plan]at h2
 rw[ex_after]at h3
 rw[ex_reply]at h4
 rw[ex_catch]at h5
 rw[ex_worthO]at h6
 have hs1:=fun lab s=>e_Same2 [1] [1] (by decide) (by decide) lab s
 have hs2:=fun lab s=>e_Same2 [1,0] [1,0] (by decide) (by decide) lab s
 have eA:dV exT=[i64 3,i64 2,i64 1, .sl .no 3 [[i64 0,i64 1, .bool true],[i64 1,i64 2, .bool false]], .sl .no 2 [[i64 0,i64 10],[i64 1,i64 7]]]:=rfl
 have eB:dV exO=[i64 3,i64 2,i64 1, .sl .no 3 [[i64 0,i64 1, .bool false],[i64 1,i64 2, .bool false]], .sl .no 2 [[i64 0,i64 10],[i64 1,i64 7]]]:=rfl
 have c1:es cInt [1]=[[i64 1]]:=rfl
 have c2:es cInt [0]=[[i64 0]]:=rfl
 have c3:es cInt [1,0]=[[i64 1],[i64 0]]:=rfl
 rw[eA]at h1 h2 h3 h4 h5 h0
 rw[eB]at h6 h0
 simp only[c1,c2,c3]at h2 h3 h4 hs1 hs2
 rw[den_fn t17 _ _ _ rfl]
 simp only[b17]
 simp (maxSteps:=1000000) (disch:=first|omega|assumption|decide +kernel|(simp;done)|(simp;omega)|fail) [h0,h1,h2,h3,h4,h5,h6,hs1,hs2]
end Go.Proofs.Ytbcjofkfgpbhmaa

/-
  Doors: Turns.
-/
namespace Go.Proofs.Ytbcjofkfgpbhmaa
open Go.Ab
def turnsF(t:DTrap)(fish:Int):Option Nat:=(List.range 5).find? fun k=>decide (fish≤worthT t k)
def turnsR(t:DTrap)(fish:Int):Int×Int:=if doorB t=true then(if 0≤fish then(match turnsF t fish with
 |some k=>(((k:Nat):Int),0)
 |none=>(0,3))else(0,1))else(0,30)
abbrev turnX(t:DTrap)(d:Nat)(T1:Int)(K:List (List Int×Int)):Ab.Loc:=[(32, .cell (dV t)),(208, .cell (gameV t (chB t) (.mp (.ptr d 1208 0)))),(1208, .mp (some 5) K),(112, .cell (sceneV T1 (gN t:Nat) (at0 t 0) (at0 t 1) (at0 t 2)))]
set_option maxHeartbeats 8000000 in
theorem e_Turns(t:DTrap)(hs:ShortD t)(fish:Int)(lab s):den T 41 [.agg (dV t),i64 fish] lab s=some (.tup [i64 (turnsR t fish).1,i64 (turnsR t fish).2],s):=by
 unfold turnsR
 cases h:doorB t
 ·have hb:=fun b lab loc s=>e_begin_bad t hs h b lab loc s
  rw[den_fn t41 _ _ _ rfl]
  simp only[b41]
  simp (maxSteps:=1000000) (disch:=first|omega|assumption|decide +kernel|(simp;done)|(simp;omega)|fail) [hb]
 have ho:=doorB_iff.1 h
 by_cases hf:0≤fish
 rotate_left
 ·have hb:=fun lab loc s=>e_begin_arg t ho lab loc s
  rw[den_fn t41 _ _ _ rfl]
  simp only[b41]
  simp (maxSteps:=1000000) (disch:=first|omega|assumption|decide +kernel|(simp;done)|(simp;omega)|fail) [hb,hf]
 have hb:=fun lab loc k0 k1=>e_begin t ho lab loc s k0 k1
 have htu:=ho.tu
 have hv:=fun(k:Nat) (hk:k≤4) K lab=>e_value ho k hk (GameD.topM (t:=t) (s:=s) (lg:=208) (lm:=1208) (X:=turnX t s.length (k:Nat)) (fun K=>rfl) (fun K=>rfl) (fun K K'=>rfl)) rfl (gN t) (nAt t) K lab (gN_lt ho) (nAt_in ho)
 simp only[wO_start ho]at hv
 have key:=loop_list_e (T:=Go.Proofs.Ytbcjofkfgpbhmaa.T) (live:=[1,6,7,20]) (keep:=[32,112,208,1208]) (b:=d41l0) (List.range 5)
  (fun _ (_:MemW t×Int)=>True)
  (fun k _=>[(1,i64 fish),(6, .ptr s.length 208 0),(7, .ptr s.length 112 0),(20,i64 (k:Nat))]) (fun _ p=>turnX t s.length p.2 p.1.1::s)
  (fun p k=>((valK t k (gN t) (nAt t) p.1,((k:Nat):Int)),!decide (fish≤worthT t k)))
  (fun(_:Unit) p=>(.ret,[(4,i64 p.2),(5,i64 0)],turnX t s.length p.2 p.1.1::s)) (fun p=>(.exit 0,[(1,i64 fish),(6, .ptr s.length 208 0),(7, .ptr s.length 112 0),(20,i64 5),(21, .bool false)],turnX t s.length p.2 p.1.1::s))
  (by simp) (by simp) ?_ ?_ (Mem.nil,t.turns) trivial [(1,i64 fish),(6, .ptr s.length 208 0),(7, .ptr s.length 112 0),(20,i64 0)] (turnX t s.length t.turns []::s) (by simp) (by simp)
 ·obtain⟨g,hg⟩:=key
  have fold: ∀(l:List Nat) (a:MemW t×Int),∃a',foldB (fun(p:MemW t×Int) (k:Nat)=>((valK t k (gN t) (nAt t) p.1,((k:Nat):Int)),!decide (fish≤worthT t k))) l a=(a',(l.find? fun k=>decide (fish≤worthT t k)).isNone)∧ ∀k,(l.find? fun k=>decide (fish≤worthT t k))=some k→a'.2=(k:Nat):=by
   intro l
   induction l with
   |nil=>intro a;exact⟨a,rfl,fun k hk=>by simp at hk⟩
   |cons x r ih=>
     intro a
     simp only[foldB,List.find?_cons]
     by_cases hx:fish≤worthT t x
     ·exact⟨(valK t x (gN t) (nAt t) a.1,((x:Nat):Int)),by simp[hx],fun k hk=>by simp[hx]at hk;rw[hk]⟩
     ·obtain⟨a',h1,h2⟩:=ih (valK t x (gN t) (nAt t) a.1,((x:Nat):Int))
      exact⟨a',by simp only[hx,decide_false,Bool.not_false,if_true];exact h1,fun k hk=>h2 k (by simpa [hx]using hk)⟩
  obtain⟨⟨K',j⟩,hf1,hf2⟩:=fold (List.range 5) (Mem.nil,t.turns)
  rw[hf1]at hg
  change∀k,turnsF t fish=some k→_ at hf2
  change Run T b41l0 _ _=if (turnsF t fish).isNone=true then _ else _ at hg
  simp only[scene0,turnX,sceneV,gN,if_pos hf]at hb hg⊢
  clear hv
  generalize chB t=C at*
  generalize gateBits t.gates=o at*
  cases hq:turnsF t fish with
  |none=>
    rw[hq]at hg
    simp only[Option.isNone_none,if_true]at hg
    rw[den_fn t41 _ _ _ rfl]
    simp only[b41]
    simp (maxSteps:=1000000) (disch:=first|omega|assumption|decide +kernel|(simp;done)|(simp;omega)|fail) [hb,hf,hg]
  |some k=>
    rw[hq]at hg
    have hj:=hf2 k hq
    simp only at hj
    subst hj
    simp only[Option.isNone_some,Bool.false_eq_true,if_false]at hg
    rw[den_fn t41 _ _ _ rfl]
    simp only[b41]
    simp (maxSteps:=1000000) (disch:=first|omega|assumption|decide +kernel|(simp;done)|(simp;omega)|fail) [hb,hf,hg]
 ·intro k p hk _
  obtain⟨K,j⟩:=p
  simp only[List.length_range]at hk
  simp only[List.getElem_range]
  have hk4:k≤4:=by omega
  have hk5:(k:Int)<5:=by omega
  have hv1:=hv k hk4 K
  generalize valK t k (gN t) (nAt t) K=K2 at*
  generalize worthT t k=w at*
  clear hv
  have hne:sceneL (k:Nat) (gN t:Nat) (nAt t)=sceneV (k:Nat) (gN t:Nat) (at0 t 0) (at0 t 1) (at0 t 2):=rfl
  rw[hne]at hv1
  simp only[turnX,sceneV]at hv1⊢
  generalize chB t=C at*
  by_cases hw:fish≤w
  ·refine⟨fun hb=>absurd hb (by simp[hw]),fun _=>⟨(),?_⟩⟩
   simp (maxSteps:=1000000) (disch:=first|omega|assumption|decide +kernel|(simp;done)|(simp;omega)|fail) [hk5,hv1,hw,wk k (by omega)]
  ·refine⟨fun _=>⟨?_,trivial⟩,fun hb=>absurd hb (by simp[hw])⟩
   simp (maxSteps:=1000000) (disch:=first|omega|assumption|decide +kernel|(simp;done)|(simp;omega)|fail) [hk5,hv1,hw,wk k (by omega)]
 ·intro p _
  simp
end Go.Proofs.Ytbcjofkfgpbhmaa

/-
  DoorsBest: its equation.
-/
namespace Go.Proofs.Ytbcjofkfgpbhmaa
open Go.Ab
theorem plan_in {t:DTrap}(h:DoorOk t)(hT:0<t.turns):planS t∈choicesS t.hands.toNat t.gates.length∧leastT t (t.turns.toNat-1) (planS t)=worthT t t.turns.toNat∧
 ∀c∈choicesS t.hands.toNat t.gates.length,cmpL c (planS t)<0→leastT t (t.turns.toNat-1) c≠worthT t t.turns.toNat:=by
 have hs:=choices_sorted t.hands.toNat t.gates.length
 obtain⟨c,hc,e⟩:=worthS_mem (n:=t.chambers.toNat) (h:=t.hands.toNat) (fish_nonneg h) (t.turns.toNat-1) t.gates (posL t)
 have key: ∀l:List (List Int),(∃c∈l,leastT t (t.turns.toNat-1) c=worthT t t.turns.toNat)→l.Pairwise (fun a b=>cmpL a b<0)→
  ∃m,l.find? (fun c=>decide (leastT t (t.turns.toNat-1) c=worthT t t.turns.toNat))=some m∧m∈l∧leastT t (t.turns.toNat-1) m=worthT t t.turns.toNat∧ ∀c∈l,cmpL c m<0→leastT t (t.turns.toNat-1) c≠worthT t t.turns.toNat:=by
  intro l
  induction l with
  |nil=>rintro⟨c,hc,_⟩;cases hc
  |cons x r ih=>
    rintro⟨c,hc,hw⟩ hp
    obtain⟨hx,hp2⟩:=List.pairwise_cons.1 hp
    by_cases hxw:leastT t (t.turns.toNat-1) x=worthT t t.turns.toNat
    ·refine⟨x,by rw[List.find?_cons,decide_eq_true hxw],by simp,hxw,fun c hc hlt=> ?_⟩
     rcases List.mem_cons.1 hc with rfl|hc
     ·exact absurd hlt (cmpL_irr _)
     ·exact absurd (cmpL_trans _ _ _ hlt (hx c hc)) (cmpL_irr _)
    ·obtain⟨m,h1,h2,h3,h4⟩:=ih (by
      rcases List.mem_cons.1 hc with rfl|hc
      ·exact absurd hw hxw
      ·exact⟨c,hc,hw⟩) hp2
     refine⟨m,by rw[List.find?_cons,decide_eq_false hxw];exact h1,by simp[h2],h3,fun c hc hlt=> ?_⟩
     rcases List.mem_cons.1 hc with rfl|hc
     ·exact hxw
     ·exact h4 c hc hlt
 obtain⟨m,h1,h2,h3,h4⟩:=key _ ⟨c,hc,by unfold leastT worthT;rw[show t.turns.toNat=t.turns.toNat-1+1 by omega];exact e.symm⟩ hs
 have hp:planS t=m:=by simp[planS,h1]
 rw[hp]
 exact⟨h2,h3,h4⟩
end Go.Proofs.Ytbcjofkfgpbhmaa

/-
  DoorsStill: its equation.
-/
namespace Go.Proofs.Ytbcjofkfgpbhmaa
open Go.Ab
theorem turning_ok {t:DTrap}(h:DoorOk t) {k:Nat}(hk:k≤4):DoorOk (turningT t (k:Nat)) where
 ch:=h.ch
 tu:=by simp only[turningT];omega
 ha:=h.ha
 gl:=h.gl
 ol:=h.ol
 gates:=h.gates
 groups:=h.groups
end Go.Proofs.Ytbcjofkfgpbhmaa

/-
  Doors: the reference's lists and changes.
-/
namespace Go.Proofs.Ytbcjofkfgpbhmaa
open Go.Ab
theorem appK_full_e {α:Type} {c:α→List V} {esz bytes lab:Nat} {s:Stk} {c':Cap} {z':Nat} {a:List α}(h:a=[]):appK esz bytes lab s (.sl .full esz []) (.sl c' z' (es c a))=some (.sl .full esz (es c a),s):=by
 subst h;rw[show es c ([]:List α)=[]from rfl];exact appK_full_nil _ _ _ _ _ _ _ _ (by simp) (by simp) (.inr rfl)
theorem appD_full_e {α:Type} {c:α→List V} {esz bytes lab:Nat} {vis:Ab.Loc} {rest:Stk} {c':Cap} {z':Nat} {a:List α}(h:a=[]):appD esz bytes lab vis rest (.sl .full esz []) (.sl c' z' (es c a))=some (.sl .full esz (es c a),[]):=by
 subst h;rw[show es c ([]:List α)=[]from rfl];exact appD_full_nil _ _ _ _ _ _ _ _ _ (by simp) (by simp) (.inr rfl)
theorem foldl_flat {α β:Type}(g:α→List β): ∀(l:List α) (L:List β),l.foldl (fun L x=>L ++g x) L=L ++l.flatMap g
 |[],L=>by simp
 |x::l,L=>by rw[List.foldl_cons,foldl_flat g l,List.flatMap_cons,List.append_assoc]
theorem lists_succ(m:Nat)(f:List Int)(b:Nat):listsP (m+1) f b=(List.range (b-fromOf f)).foldl (fun L j=>L ++listsP m (f ++[((fromOf f+j:Nat):Int)]) b) []:=by
 rw[foldl_flat,listsP,List.range'_eq_map_range,List.flatMap_map];rfl
theorem pow8 {m:Nat}(h:m≤7):8^m≤2097152:=by
 have:8^m≤8^7:=Nat.pow_le_pow_right (by omega) h
 omega
set_option maxHeartbeats 4000000 in
theorem e_lists_l(b:Nat)(hb:b≤8)(m:Nat)(f:List Int)(hm:f.length+m+1≤8)(hI: ∀(n:Nat) (lab:Nat) (s:Stk),n<8→den T 99 [.sl .no 1 (es cInt (f ++[(n:Int)])),i64 ((f.length:Int)+m+1),i64 b] lab s=some (.sl .no 1 (es cInts (listsP m (f ++[(n:Int)]) b)),s))(s:Stk):
 Run T b99l0 [(8, .sl (.own s.length 129) 1 []),(0, .sl .no 1 (es cInt f)),(1,i64 ((f.length:Int)+m+1)),(2,i64 b),(8, .sl .full 1 []),(9,i64 (fromOf f:Nat))] ([(129, .tok 0)]::s)=some (.exit 0,[(0, .sl .no 1 (es cInt f)),(1,i64 ((f.length:Int)+m+1)),(2,i64 b),(8, .sl (.own s.length 129) 1 (es cInts ((List.range (b-fromOf f)).foldl (fun L j=>L ++listsP m (f ++[((fromOf f+j:Nat):Int)]) b) []))),(9,i64 ((fromOf f:Int)+((List.range (b-fromOf f)).length:Nat))),(29, .bool false)],[(129, .tok ((List.range (b-fromOf f)).foldl (fun L j=>L ++listsP m (f ++[((fromOf f+j:Nat):Int)]) b) []).length)]::s):=by
 have key:=loop_fold (T:=T) (live:=[0,1,2,8,9]) (keep:=[129,240]) (b:=d99l0) (List.range (b-fromOf f)) (fun k L=>L.length≤k*2097152) (fun L j=>L ++listsP m (f ++[((fromOf f+j:Nat):Int)]) b) (fun k (a:List (List Int))=>[(0, .sl .no 1 (es cInt f)),(1,i64 ((f.length:Int)+m+1)),(2,i64 b),(8, .sl (.own s.length 129) 1 (es cInts a)),(9,i64 ((fromOf f:Int)+(k:Nat)))]) (fun k (a:List (List Int))=>[(129, .tok a.length)]::s) (fun(a:List (List Int))=>(.exit 0,[(0, .sl .no 1 (es cInt f)),(1,i64 ((f.length:Int)+m+1)),(2,i64 b),(8, .sl (.own s.length 129) 1 (es cInts a)),(9,i64 ((fromOf f:Int)+((List.range (b-fromOf f)).length:Nat))),(29, .bool false)],[(129, .tok a.length)]::s)) (by simp) ?_ ?_ ?_ [] (by simp) [(8, .sl (.own s.length 129) 1 []),(0, .sl .no 1 (es cInt f)),(1,i64 ((f.length:Int)+m+1)),(2,i64 b),(8, .sl .full 1 []),(9,i64 (fromOf f:Nat))] ([(129, .tok 0)]::s) (by simp) (by simp)
 ·exact key
 ·intro k a hk hi
  try simp only[List.length_range]at hk
  try simp only[List.getElem_range]
  have hk2:(fromOf f:Int)+k<b:=by omega
  have w1:IntKind.i64.wrap ((fromOf f:Int)+k+1)=(fromOf f:Int)+((k:Int)+1):=by rw[wi _ (by omega) (by omega)];omega
  have hL:=lists_len hb m (f ++[((fromOf f+k:Nat):Int)])
  have hp:=pow8 (m:=m) (by omega)
  have hI2:=fun lab s=>hI (fromOf f+k) lab s (by omega)
  simp only[Int.natCast_add]at hI2 hL⊢
  generalize hx:(fromOf f:Int)+k=x at hk2 w1 hI2 hL⊢
  generalize listsP m (f ++[x]) b=Q at hI2 hL⊢
  have b1:(a.length+Q.length)*24≤140737488355328:=by omega
  have b2:a.length+Q.length<140737488355328:=by omega
  have f1: ¬(140737488355328:Int)<f.length*8:=by omega
  have f2: ¬(140737488355328:Int)≤f.length:=by omega
  have ew:(fromOf f:Int)+((k+1:Nat):Int)=(fromOf f:Int)+((k:Int)+1):=by omega
  by_cases h0:f=[]
  ·simp (maxSteps:=1000000) (disch:=first|omega|assumption|decide +kernel|(simp;done)|(simp;omega)|fail) [hx,hk2,w1,hI2,appK_full_e h0,appK_full,appK_own,b1,b2,f1,f2,ew]
  ·simp (maxSteps:=1000000) (disch:=first|omega|assumption|decide +kernel|(simp;done)|(simp;omega)|fail) [hx,hk2,w1,hI2,h0,appK_full,appK_own1,appK_own,b1,b2,f1,f2,ew]
 ·intro k a hk hi
  try simp only[List.length_range]at hk
  try simp only[List.getElem_range]
  have hL:=lists_len hb m (f ++[((fromOf f+k:Nat):Int)])
  have hp:=pow8 (m:=m) (by omega)
  simp only[List.length_append];omega
 ·intro a hi
  have w: ¬(fromOf f:Int)+((b-fromOf f:Nat):Int)<b:=by omega
  simp[w]
set_option maxHeartbeats 4000000 in
theorem e_lists(b:Nat)(hb:b≤8): ∀(m:Nat) (f:List Int),f.length+m≤8→(∀y∈f,0≤y∧y<8)→ ∀(lab:Nat) (s:Stk),
 den T 99 [.sl .no 1 (es cInt f),i64 ((f.length:Int)+m),i64 b] lab s=some (.sl .no 1 (es cInts (listsP m f b)),s)
 |0,f,_,_=>fun lab s=>by
   rw[den_fn t99 _ _ _ rfl]
   simp only[b99]
   simp[listsP,es]
 |m+1,f,hm,hf=>fun lab s=>by
   have hI: ∀(n:Nat) (lab:Nat) (s:Stk),n<8→den T 99 [.sl .no 1 (es cInt (f ++[(n:Int)])),i64 ((f.length:Int)+m+1),i64 b] lab s=some (.sl .no 1 (es cInts (listsP m (f ++[(n:Int)]) b)),s):=fun n lab s hn=>by
    have:=e_lists b hb m (f ++[(n:Int)]) (by simp;omega) (fun y hy=>by
     rcases List.mem_append.1 hy with h|h
     ·exact hf y h
     ·simp only[List.mem_singleton]at h;omega) lab s
    have e2:(((f ++[(n:Int)]).length:Nat):Int)+m=(f.length:Int)+m+1:=by simp;omega
    rw[e2]at this
    exact this
   have hL:=e_lists_l b hb m f (by omega) hI s
   rw[←lists_succ]at hL
   have em:((m+1:Nat):Int)=(m:Int)+1:=by omega
   have e0:(f.length:Int)+((m:Int)+1)=(f.length:Int)+m+1:=by omega
   have e1: ¬(f.length:Int)=(f.length:Int)+m+1:=by omega
   rw[em,e0]
   rw[den_fn t99 _ _ _ rfl]
   simp only[b99]
   by_cases h0:f=[]
   ·subst h0
    have hfr:fromOf []=0:=rfl
    rw[hfr]at hL
    simp only[List.length_nil,Int.natCast_zero,Int.zero_add,es_nil]at hL e1⊢
    have e2: ¬(0:Int)=(m:Int)+1:=by omega
    simp (maxSteps:=1000000) (disch:=first|omega|assumption|decide +kernel|(simp;done)|(simp;omega)|fail) [hL,e2]
   ·have hl0:=List.length_pos_iff.2 h0
    have hlast:f.getLast? =some f[f.length-1]:=by rw[List.getLast?_eq_getElem?,List.getElem?_eq_getElem]
    have hb1:=hf f[f.length-1] (List.getElem_mem (by omega))
    have hfr:(fromOf f:Int)=f[f.length-1]+1:=by unfold fromOf;rw[hlast];dsimp only;omega
    have w1:IntKind.i64.wrap ((f.length:Int)-1)=(f.length:Int)-1:=wi _ (by omega) (by omega)
    have w2:IntKind.i64.wrap (f[f.length-1]+1)=(fromOf f:Int):=by rw[wi _ (by omega) (by omega),hfr]
    have t1:((f.length:Int)-1).toNat=f.length-1:=by omega
    have t2:0≤(f.length:Int)-1:=by omega
    have t3:0<(f.length:Int):=by omega
    have t4:f.length-1<f.length:=by omega
    have t5: ¬(f.length:Int)<1:=by omega
    simp (maxSteps:=1000000) (disch:=first|omega|assumption|decide +kernel|(simp;done)|(simp;omega)|fail) [hL,e1,w1,w2,t1,t2,t3,t4,t5,hl0]
theorem choices_lists: ∀g,g<6→ ∀h,h<4→(List.range (min h g+1)).foldl (fun L m=>L ++listsP m [] g) []=choicesS h g:=by decide +kernel
theorem choices_bound: ∀g,g<6→ ∀h,h<4→ ∀k,k≤min h g→(listsP k [] g).length≤100:=by decide +kernel
set_option maxHeartbeats 4000000 in
theorem e_ChoicesOf(t:DTrap)(h:DoorOk t)(lab s):den T 77 [.agg (dV t)] lab s=some (.sl .no 1 (es cInts (choicesS t.hands.toNat t.gates.length)),s):=by
 have hgl:=h.gl
 have hha:=h.ha
 have hM:((min t.hands.toNat t.gates.length:Nat):Int)=min t.hands t.gates.length:=by omega
 have key:=loop_fold (T:=Go.Proofs.Ytbcjofkfgpbhmaa.T) (live:=[1,3,4]) (keep:=[16,49]) (b:=d77l0) (List.range (min t.hands.toNat t.gates.length+1)) (fun k (a:List (List Int))=>a.length≤100*k) (fun L m=>L ++listsP m [] t.gates.length)
  (fun k a=>[(1, .ptr s.length 16 0),(3, .sl (.own s.length 49) 1 (es cInts a)),(4,i64 (k:Nat))]) (fun _ a=>[(16, .cell (dV t)),(49, .tok a.length)]::s)
  (fun a=>(.exit 0,[(1, .ptr s.length 16 0),(3, .sl (.own s.length 49) 1 (es cInts a)),(4,i64 ((min t.hands.toNat t.gates.length+1:Nat):Int)),(15, .bool false)],[(16, .cell (dV t)),(49, .tok a.length)]::s))
  (by simp) ?_ ?_ ?_ [] (by simp) [(3, .sl (.own s.length 49) 1 []),(1, .ptr s.length 16 0),(3, .sl .full 1 []),(4,i64 0)] ([(16, .cell (dV t)),(49, .tok 0)]::s) (by simp) (by simp)
 ·rw[choices_lists _ (by omega) _ (by omega)]at key
  change Run T b77l0 _ _=_ at key
  generalize choicesS t.hands.toNat t.gates.length=L at*
  rw[den_fn t77 _ _ _ rfl]
  simp only[b77]
  simp (maxSteps:=1000000) (disch:=first|omega|assumption|decide +kernel|(simp;done)|(simp;omega)|fail) [key]
 ·intro k a hk hi
  simp only[List.length_range]at hk
  simp only[List.getElem_range]
  have hk1:(k:Int)≤t.hands:=by omega
  have hk2:(k:Int)≤t.gates.length:=by omega
  have hls:=fun lab s=>e_lists t.gates.length (by omega) k [] (by simp;omega) (by simp) lab s
  simp only[List.length_nil,Int.natCast_zero,Int.zero_add,es_nil]at hls
  have hb:=choices_bound t.gates.length (by omega) t.hands.toNat (by omega) k (by omega)
  generalize listsP k [] t.gates.length=Q at*
  have b1:(a.length+Q.length)*24≤140737488355328:=by omega
  have b2:a.length+Q.length<140737488355328:=by omega
  simp (maxSteps:=1000000) (disch:=first|omega|assumption|decide +kernel|(simp;done)|(simp;omega)|fail) [hk1,hk2,hls,appK_own,b1,b2,wk k (by omega)]
 ·intro k a hk hi
  simp only[List.length_range]at hk
  simp only[List.getElem_range]
  have hb:=choices_bound t.gates.length (by omega) t.hands.toNat (by omega) k (by omega)
  simp only[List.length_append];omega
 ·intro a hi
  simp only[List.length_range]
  by_cases hx:t.hands<t.gates.length
  ·have e1: ¬((min t.hands.toNat t.gates.length+1:Nat):Int)≤t.hands:=by omega
   generalize ((min t.hands.toNat t.gates.length+1:Nat):Int)=N at*
   simp (maxSteps:=1000000) (disch:=first|omega|assumption|decide +kernel|(simp;done)|(simp;omega)|fail) [e1]
  ·have e1: ¬((min t.hands.toNat t.gates.length+1:Nat):Int)≤t.gates.length:=by omega
   generalize ((min t.hands.toNat t.gates.length+1:Nat):Int)=N at*
   by_cases e2:N≤t.hands
   ·simp (maxSteps:=1000000) (disch:=first|omega|assumption|decide +kernel|(simp;done)|(simp;omega)|fail) [e1,e2]
   ·simp (maxSteps:=1000000) (disch:=first|omega|assumption|decide +kernel|(simp;done)|(simp;omega)|fail) [e2]
end Go.Proofs.Ytbcjofkfgpbhmaa

/-
  Doors: Ways and Choices, by the program and by the reference; equal lists, equal traps.
-/
namespace Go.Proofs.Ytbcjofkfgpbhmaa
open Go.Ab
end Go.Proofs.Ytbcjofkfgpbhmaa

/-
  DoorsWays: its equation.
-/
namespace Go.Proofs.Ytbcjofkfgpbhmaa
open Go.Ab
theorem same_l0(t:DTrap)(hg:t.gates.length≤40)(s:Stk):
 Run T b40l0 [(2, .ptr s.length 32 0),(3, .ptr s.length 48 0),(5,i64 0)] ([(32, .cell (dV t)),(48, .cell (dV t))]::s)=some (.exit 0,[(2, .ptr s.length 32 0),(3, .ptr s.length 48 0),(5,i64 t.gates.length),(48, .bool false)],[(32, .cell (dV t)),(48, .cell (dV t))]::s):=by
 have key:=loop_fold (T:=Go.Proofs.Ytbcjofkfgpbhmaa.T) (live:=[2,3,5]) (keep:=[32,48]) (b:=d40l0) (List.range t.gates.length) (fun _ (_:Unit)=>True) (fun a _=>a)
  (fun k _=>[(2, .ptr s.length 32 0),(3, .ptr s.length 48 0),(5,i64 (k:Nat))]) (fun _ _=>[(32, .cell (dV t)),(48, .cell (dV t))]::s)
  (fun _=>(.exit 0,[(2, .ptr s.length 32 0),(3, .ptr s.length 48 0),(5,i64 t.gates.length),(48, .bool false)],[(32, .cell (dV t)),(48, .cell (dV t))]::s))
  (by simp) ?_ (by simp) ?_ () trivial [(2, .ptr s.length 32 0),(3, .ptr s.length 48 0),(5,i64 0)] ([(32, .cell (dV t)),(48, .cell (dV t))]::s) (by simp) (by simp)
 ·exact key
 ·intro k _ hk _
  simp only[List.length_range]at hk
  have hk2:(k:Int)<t.gates.length:=by omega
  generalize hG:t.gates[k]=G at*
  simp (maxSteps:=1000000) (disch:=first|omega|assumption|decide +kernel|(simp;done)|(simp;omega)|fail) [run_drawnK,orSlow_none,hk,hk2,hG,wk k (by omega)]
 ·intro _ _
  simp
theorem same_l1(t:DTrap)(hg:t.groups.length≤40)(s:Stk):
 Run T b40l1 [(2, .ptr s.length 32 0),(3, .ptr s.length 48 0),(6,i64 0)] ([(32, .cell (dV t)),(48, .cell (dV t))]::s)=some (.exit 2,[(2, .ptr s.length 32 0),(3, .ptr s.length 48 0),(6,i64 t.groups.length),(66, .bool false)],[(32, .cell (dV t)),(48, .cell (dV t))]::s):=by
 have key:=loop_fold (T:=Go.Proofs.Ytbcjofkfgpbhmaa.T) (live:=[2,3,6]) (keep:=[32,48]) (b:=d40l1) (List.range t.groups.length) (fun _ (_:Unit)=>True) (fun a _=>a)
  (fun k _=>[(2, .ptr s.length 32 0),(3, .ptr s.length 48 0),(6,i64 (k:Nat))]) (fun _ _=>[(32, .cell (dV t)),(48, .cell (dV t))]::s)
  (fun _=>(.exit 2,[(2, .ptr s.length 32 0),(3, .ptr s.length 48 0),(6,i64 t.groups.length),(66, .bool false)],[(32, .cell (dV t)),(48, .cell (dV t))]::s))
  (by simp) ?_ (by simp) ?_ () trivial [(2, .ptr s.length 32 0),(3, .ptr s.length 48 0),(6,i64 0)] ([(32, .cell (dV t)),(48, .cell (dV t))]::s) (by simp) (by simp)
 ·exact key
 ·intro k _ hk _
  simp only[List.length_range]at hk
  have hk2:(k:Int)<t.groups.length:=by omega
  generalize hG:t.groups[k]=G at*
  simp (maxSteps:=1000000) (disch:=first|omega|assumption|decide +kernel|(simp;done)|(simp;omega)|fail) [run_drawnK,orSlow_none,hk,hk2,hG,wk k (by omega)]
 ·intro _ _
  simp
set_option maxHeartbeats 2000000 in
theorem e_SameD(t:DTrap)(hg:t.gates.length≤40)(hr:t.groups.length≤40)(lab s):den T 40 [.agg (dV t), .agg (dV t)] lab s=some (.bool true,s):=by
 have h0:=same_l0 t hg s
 have h1:=same_l1 t hr s
 rw[den_fn t40 _ _ _ rfl]
 simp only[b40]
 simp (maxSteps:=1000000) (disch:=first|omega|assumption|decide +kernel|(simp;done)|(simp;omega)|fail) [h0,h1]
end Go.Proofs.Ytbcjofkfgpbhmaa

/-
  Doors, the reference: movesOf.
-/
namespace Go.Proofs.Ytbcjofkfgpbhmaa
open Go.Ab
theorem moves_len5: ∀(l:List (List Int)),(∀w∈l,w.length≤5)→(movesS l).length≤5^l.length
 |[],_=>by simp[movesS]
 |w::l,h=>by
   have ih:=moves_len5 l fun x hx=>h x (by simp[hx])
   have hw:=h w (by simp)
   simp only[movesS,List.length_cons]
   have:=flat_len (g:=fun x=>(movesS l).map (x:: ·)) (k:=5^l.length) (l:=w) (fun x _=>by simpa using ih)
   have h2:w.length*5^l.length≤5*5^l.length:=Nat.mul_le_mul_right _ hw
   rw[Nat.pow_succ,Nat.mul_comm (5^l.length) 5]
   omega
def waysL(t:DTrap):List (List Int):=(posL t).map (waysS t.chambers.toNat t.gates)
theorem waysL_len(t:DTrap):(waysL t).length=t.groups.length:=by simp[waysL,posL]
def restM(t:DTrap)(f:List Int):List (List Int):=(movesS ((waysL t).drop f.length)).map (f ++ ·)
theorem restM_len {t:DTrap}(h:DoorOk t)(f:List Int):(restM t f).length≤125:=by
 have h1:=moves_len5 ((waysL t).drop f.length) fun w hw=>by
  obtain⟨p,_,rfl⟩:=List.mem_map.1 (List.mem_of_mem_drop hw)
  have:=waysS_len (n:=t.chambers.toNat) (gs:=t.gates) (p:=p)
  have:=h.ch
  omega
 have h2:((waysL t).drop f.length).length≤3:=by rw[List.length_drop,waysL_len];have:=h.ol;omega
 have h3:5^((waysL t).drop f.length).length≤5^3:=Nat.pow_le_pow_right (by decide) h2
 unfold restM
 rw[List.length_map]
 omega
theorem restM_cons {t:DTrap} {f:List Int}(hf:f.length<t.groups.length):(waysS t.chambers.toNat t.gates ((posL t).getD f.length 0)).foldl (fun L x=>L ++restM t (f ++[x])) []=restM t f:=by
 rw[foldl_flat,List.nil_append]
 unfold restM
 have hl:f.length<(waysL t).length:=by rw[waysL_len];exact hf
 have hpl:f.length<(posL t).length:=by simpa [posL]using hf
 rw[List.drop_eq_getElem_cons hl]
 have hg:(waysL t)[f.length]=waysS t.chambers.toNat t.gates ((posL t).getD f.length 0):=by
  simp[waysL,List.getD,hpl]
 rw[hg,movesS,List.map_flatMap]
 congr 1
 funext x
 simp only[List.length_append,List.length_cons,List.length_nil,List.map_map]
 congr 1
 funext m
 simp
set_option maxHeartbeats 8000000 in
theorem e_movesOf(t:DTrap)(h:DoorOk t): ∀(r:Nat) (f:List Int),f.length+r=t.groups.length→ ∀(lab:Nat) (s:Stk),den T 98 [.agg (dV t), .sl .no 1 (es cInt f)] lab s=some (.sl .no 1 (es cInts (restM t f)),s)
 |0,f,hf=>fun lab s=>by
   have e:restM t f=[f]:=by
    unfold restM
    rw[List.drop_eq_nil_of_le (by rw[waysL_len];omega)]
    simp[movesS]
   have hf2:(f.length:Int)=t.groups.length:=by omega
   rw[e]
   rw[den_fn t98 _ _ _ rfl]
   simp only[b98]
   simp (maxSteps:=1000000) (disch:=first|omega|assumption|decide +kernel|(simp;done)|(simp;omega)|fail) [hf2]<;>rfl
 |r+1,f,hf=>fun lab s=>by
   have hol:=h.ol
   have hfl:f.length<t.groups.length:=by omega
   have hfl2:(f.length:Int)<t.groups.length:=by omega
   have hne: ¬(f.length:Int)=t.groups.length:=by omega
   have hI:=fun(x:Int) lab s=>e_movesOf t h r (f ++[x]) (by simp;omega) lab s
   have hw:=fun p lab s=>e_WaysOf t h p lab s
   have hpos:(posL t).getD f.length 0=t.groups[f.length].pos:=by simp[posL,List.getD,hfl]
   have hwl:=waysS_len (n:=t.chambers.toNat) (gs:=t.gates) (p:=t.groups[f.length].pos)
   have hch:=h.ch
   have hcons:=restM_cons hfl
   rw[hpos]at hcons
   have hw2:=hw t.groups[f.length].pos
   generalize hG:t.groups[f.length]=G at*
   generalize waysS t.chambers.toNat t.gates G.pos=W at*
   have key:=loop_fold (T:=Go.Proofs.Ytbcjofkfgpbhmaa.T) (live:=[1,2,5,6,7]) (keep:=[32,81,240,384]) (b:=d98l0) W (fun k (a:List (List Int))=>a.length≤125*k) (fun L x=>L ++restM t (f ++[x]))
    (fun k a=>[(1, .sl .no 1 (es cInt f)),(2, .ptr s.length 32 0),(5, .sl (.own s.length 81) 1 (es cInts a)),(6, .sl .no 1 (es cInt W)),(7,i64 (k:Nat))]) (fun _ a=>[(32, .cell (dV t)),(81, .tok a.length)]::s)
    (fun a=>(.exit 0,[(1, .sl .no 1 (es cInt f)),(2, .ptr s.length 32 0),(5, .sl (.own s.length 81) 1 (es cInts a)),(6, .sl .no 1 (es cInt W)),(7,i64 W.length),(28, .bool false)],[(32, .cell (dV t)),(81, .tok a.length)]::s))
    (by simp) ?_ ?_ ?_ [] (by simp) [(5, .sl (.own s.length 81) 1 []),(1, .sl .no 1 (es cInt f)),(2, .ptr s.length 32 0),(5, .sl .full 1 []),(6, .sl .no 1 (es cInt W)),(7,i64 0)] ([(32, .cell (dV t)),(81, .tok 0)]::s) (by simp) (by simp)
   ·rw[hcons]at key
    change Run T b98l0 _ _=_ at key
    generalize restM t f=R at*
    rw[den_fn t98 _ _ _ rfl]
    simp only[b98]
    simp (maxSteps:=1000000) (disch:=first|omega|assumption|decide +kernel|(simp;done)|(simp;omega)|fail) [run_drawnK,orSlow_none,hne,hfl,hfl2,hG,hw2,key]
   ·intro k a hk hi
    have hk2:(k:Int)<W.length:=by omega
    have hQ:=restM_len h (f ++[W[k]])
    have hI2:=hI W[k]
    generalize hx:W[k]=x at*
    generalize restM t (f ++[x])=Q at*
    have b1:(a.length+Q.length)*24≤140737488355328:=by omega
    have b2:a.length+Q.length<140737488355328:=by omega
    have e0:es cInt f ++[[i64 x]]=es cInt (f ++[x]):=by simp[es]
    by_cases h0:f=[]
    ·simp (maxSteps:=1000000) (disch:=first|omega|assumption|decide +kernel|(simp;done)|(simp;omega)|fail) [run_drawnK,orSlow_none,hk,hk2,hx,hI2,appK_full_e h0,appD_full_e h0,appD_full1,appK_own,b1,b2,e0,wk k (by omega)]
    ·simp (maxSteps:=1000000) (disch:=first|omega|assumption|decide +kernel|(simp;done)|(simp;omega)|fail) [run_drawnK,orSlow_none,hk,hk2,hx,hI2,h0,appD_full,appD_own1,appK_own1,appK_own,b1,b2,e0,wk k (by omega)]
   ·intro k a hk hi
    have hQ:=restM_len h (f ++[W[k]])
    simp only[List.length_append];omega
   ·intro a hi
    simp
end Go.Proofs.Ytbcjofkfgpbhmaa

/-
  Doors, the reference: a number for each state.
-/
namespace Go.Proofs.Ytbcjofkfgpbhmaa
open Go.Ab
theorem fold2_inj: ∀(l l':List Int) (n n':Int),l.length=l'.length→(∀x∈l,0≤x∧x<2)→(∀x∈l',0≤x∧x<2)→l.foldl (fun n x=>n*2+x) n=l'.foldl (fun n x=>n*2+x) n'→n=n'∧l=l'
 |[],[],n,n',_,_,_,h=>⟨h,rfl⟩
 |x::l,y::l',n,n',hl,h1,h2,h=>by
   obtain⟨e,e2⟩:=fold2_inj l l' _ _ (by simpa using hl) (fun z hz=>h1 z (by simp[hz])) (fun z hz=>h2 z (by simp[hz])) h
   have e:n*2+x=n'*2+y:=e
   have a:=h1 x (by simp)
   have b:=h2 y (by simp)
   exact⟨by omega,by rw[e2,show x=y by omega]⟩
theorem fold4_inj: ∀(l l':List Int) (n n':Int),l.length=l'.length→(∀x∈l,0≤x∧x<4)→(∀x∈l',0≤x∧x<4)→l.foldl (fun n x=>n*4+x) n=l'.foldl (fun n x=>n*4+x) n'→n=n'∧l=l'
 |[],[],n,n',_,_,_,h=>⟨h,rfl⟩
 |x::l,y::l',n,n',hl,h1,h2,h=>by
   obtain⟨e,e2⟩:=fold4_inj l l' _ _ (by simpa using hl) (fun z hz=>h1 z (by simp[hz])) (fun z hz=>h2 z (by simp[hz])) h
   have e:n*4+x=n'*4+y:=e
   have a:=h1 x (by simp)
   have b:=h2 y (by simp)
   exact⟨by omega,by rw[e2,show x=y by omega]⟩
def opD(g:DGate):Int:=if g.op=true then 1 else 0
def codeG(t:DTrap):Int:=(t.gates.map opD).foldl (fun n x=>n*2+x) t.turns
def codeT(t:DTrap):Int:=(posL t).foldl (fun n x=>n*4+x) (codeG t)
structure SameS(t t':DTrap):Prop where
 ch:t'.chambers=t.chambers
 ha:t'.hands=t.hands
 ga:t'.gates.map (fun g=>(g.a,g.b))=t.gates.map fun g=>(g.a,g.b)
 fi:fishL t'=fishL t
theorem SameS.rfl'(t:DTrap):SameS t t:=⟨rfl,rfl,rfl,rfl⟩
theorem SameS.trans {a b c:DTrap}(h:SameS a b)(h':SameS b c):SameS a c:=⟨h'.ch.trans h.ch,h'.ha.trans h.ha,h'.ga.trans h.ga,h'.fi.trans h.fi⟩
theorem SameS.symm {a b:DTrap}(h:SameS a b):SameS b a:=⟨h.ch.symm,h.ha.symm,h.ga.symm,h.fi.symm⟩
theorem gates_eq: ∀ {l l':List DGate},l.map (fun g=>(g.a,g.b))=l'.map (fun g=>(g.a,g.b))→l.map opD=l'.map opD→l=l'
 |[],[],_,_=>rfl
 |[],_::_,h,_=>by simp at h
 |_::_,[],h,_=>by simp at h
 |⟨a,b,o⟩::l,⟨a',b',o'⟩::l',h,h2=>by
   simp only[List.map_cons,List.cons.injEq,Prod.mk.injEq,opD]at h h2
   obtain⟨⟨rfl,rfl⟩,h⟩:=h
   obtain⟨h3,h2⟩:=h2
   have:o=o':=by cases o<;>cases o'<;>simp_all
   rw[this,gates_eq h h2]
theorem groups_eq: ∀ {l l':List DGroup},l.map (·.fish)=l'.map (·.fish)→l.map (·.pos)=l'.map (·.pos)→l=l'
 |[],[],_,_=>rfl
 |[],_::_,h,_=>by simp at h
 |_::_,[],h,_=>by simp at h
 |⟨a,b⟩::l,⟨a',b'⟩::l',h,h2=>by
   simp only[List.map_cons,List.cons.injEq]at h h2
   obtain⟨rfl,h⟩:=h
   obtain⟨rfl,h2⟩:=h2
   rw[groups_eq h h2]
theorem code_inj {t t':DTrap}(hs:SameS t t')(h:DoorOk t)(h':DoorOk t')(e:codeT t=codeT t'):t=t':=by
 have hgl:t'.gates.length=t.gates.length:=by simpa using congrArg List.length hs.ga
 have hfl:t'.groups.length=t.groups.length:=by simpa [fishL]using congrArg List.length hs.fi
 have hp: ∀ {t:DTrap},DoorOk t→ ∀x∈posL t,0≤x∧x<4:=fun {t} h x hx=>by
  obtain⟨g,hg,rfl⟩:=List.mem_map.1 hx
  have:=(h.groups g hg).1
  have:=h.ch
  omega
 have ho: ∀(t:DTrap),∀x∈t.gates.map opD,0≤x∧x<2:=fun t x hx=>by
  obtain⟨g,hg,rfl⟩:=List.mem_map.1 hx
  unfold opD
  split<;>omega
 obtain⟨e1,e2⟩:=fold4_inj _ _ _ _ (by simp[posL,hfl]) (hp h) (hp h') e
 obtain⟨e3,e4⟩:=fold2_inj _ _ _ _ (by simp[hgl]) (ho t) (ho t') e1
 obtain⟨ch,tu,ha,ga,gr⟩:=t
 obtain⟨ch',tu',ha',ga',gr'⟩:=t'
 simp only at e3 e4
 have h1:=hs.ch
 have h2:=hs.ha
 have h3:ga'=ga:=gates_eq hs.ga e4.symm
 have h4:gr'=gr:=groups_eq hs.fi e2.symm
 simp only at h1 h2
 subst h1 h2 h3 h4 e3
 rfl
theorem pow2_le {k:Nat}(h:k≤5):2^k≤32:=Nat.pow_le_pow_right (n:=2) (by decide) h
theorem pow4_le {k:Nat}(h:k≤3):4^k≤64:=Nat.pow_le_pow_right (n:=4) (by decide) h
set_option maxHeartbeats 4000000 in
theorem e_code(t:DTrap)(h:DoorOk t)(lab s):den T 100 [.agg (dV t)] lab s=some (i64 (codeT t),s):=by
 have hgl:=h.gl
 have hol:=h.ol
 have htu:=h.tu
 have key:=loop_fold (T:=Go.Proofs.Ytbcjofkfgpbhmaa.T) (live:=[1,3,4]) (keep:=[16]) (b:=d100l0) t.gates (fun k (n:Int)=>0≤n∧n+1≤8*((2^k:Nat):Int)) (fun n g=>n*2+opD g)
  (fun k n=>[(1, .ptr s.length 16 0),(3,i64 n),(4,i64 (k:Nat))]) (fun _ _=>[(16, .cell (dV t))]::s)
  (fun n=>(.exit 0,[(1, .ptr s.length 16 0),(3,i64 n),(4,i64 t.gates.length),(12, .bool false)],[(16, .cell (dV t))]::s))
  (by simp) ?_ ?_ ?_ t.turns (by simp;omega) [(1, .ptr s.length 16 0),(3,i64 t.turns),(4,i64 0)] ([(16, .cell (dV t))]::s) (by simp) (by simp)
 rotate_left
 ·intro k n hk hi
  have hk2:(k:Int)<t.gates.length:=by omega
  have hp:=pow2_le (k:=k) (by omega)
  have w1:IntKind.i64.wrap (n*2)=n*2:=wi _ (by omega) (by omega)
  have w2:IntKind.i64.wrap (n*2+1)=n*2+1:=wi _ (by omega) (by omega)
  unfold opD
  generalize hG:t.gates[k]=G at*
  cases ho:G.op
  ·simp (maxSteps:=1000000) (disch:=first|omega|assumption|decide +kernel|(simp;done)|(simp;omega)|fail) [hk,hk2,hG,ho,w1,wk k (by omega)]
  ·simp (maxSteps:=1000000) (disch:=first|omega|assumption|decide +kernel|(simp;done)|(simp;omega)|fail) [hk,hk2,hG,ho,w1,w2,wk k (by omega)]
 ·intro k n hk hi
  have:(2:Nat)^(k+1)=2*2^k:=by rw[Nat.pow_succ,Nat.mul_comm]
  rw[this]
  unfold opD
  split<;>omega
 ·intro n hi
  simp
 have e1:t.gates.foldl (fun n g=>n*2+opD g) t.turns=codeG t:=by unfold codeG;rw[List.foldl_map]
 rw[e1]at key
 have hcg:0≤codeG t∧codeG t+1≤256:=by
  have: ∀(l:List DGate) (n:Int) (k:Nat),0≤n∧n+1≤8*((2^k:Nat):Int)→0≤l.foldl (fun n g=>n*2+opD g) n∧l.foldl (fun n g=>n*2+opD g) n+1≤8*((2^(k+l.length):Nat):Int):=by
   intro l
   induction l with
   |nil=>intro n k hn;exact hn
   |cons g l ih=>
     intro n k hn
     have e:(2:Nat)^(k+1)=2*2^k:=by rw[Nat.pow_succ,Nat.mul_comm]
     have:=ih (n*2+opD g) (k+1) (by rw[e];unfold opD;split<;>omega)
     rw[List.foldl_cons,List.length_cons,show k+(l.length+1)=k+1+l.length by omega]
     exact this
  have h1:=this t.gates t.turns 0 (by simp;omega)
  rw[e1]at h1
  have h2:=pow2_le (k:=0+t.gates.length) (by omega)
  omega
 have key2:=loop_fold (T:=Go.Proofs.Ytbcjofkfgpbhmaa.T) (live:=[1,3,5]) (keep:=[16]) (b:=d100l1) t.groups (fun k (n:Int)=>0≤n∧n+1≤256*((4^k:Nat):Int)) (fun n g=>n*4+g.pos)
  (fun k n=>[(1, .ptr s.length 16 0),(3,i64 n),(5,i64 (k:Nat))]) (fun _ _=>[(16, .cell (dV t))]::s)
  (fun n=>(.exit 2,[(1, .ptr s.length 16 0),(3,i64 n),(5,i64 t.groups.length),(29, .bool false)],[(16, .cell (dV t))]::s))
  (by simp) ?_ ?_ ?_ (codeG t) (by simp;omega) [(1, .ptr s.length 16 0),(3,i64 (codeG t)),(5,i64 0)] ([(16, .cell (dV t))]::s) (by simp) (by simp)
 rotate_left
 ·intro k n hk hi
  have hk2:(k:Int)<t.groups.length:=by omega
  have hp:=pow4_le (k:=k) (by omega)
  have hg:=(h.groups _ (List.getElem_mem hk)).1
  have hch:=h.ch
  generalize hG:t.groups[k]=G at*
  have w1:IntKind.i64.wrap (n*4)=n*4:=wi _ (by omega) (by omega)
  have w2:IntKind.i64.wrap (n*4+G.pos)=n*4+G.pos:=wi _ (by omega) (by omega)
  simp (maxSteps:=1000000) (disch:=first|omega|assumption|decide +kernel|(simp;done)|(simp;omega)|fail) [hk,hk2,hG,w1,w2,wk k (by omega)]
 ·intro k n hk hi
  have:(4:Nat)^(k+1)=4*4^k:=by rw[Nat.pow_succ,Nat.mul_comm]
  rw[this]
  have hg:=(h.groups _ (List.getElem_mem hk)).1
  have hch:=h.ch
  omega
 ·intro n hi
  simp
 have e2:t.groups.foldl (fun n g=>n*4+g.pos) (codeG t)=codeT t:=by unfold codeT posL;rw[List.foldl_map]
 rw[e2]at key2
 change Run T b100l0 _ _=_ at key
 change Run T b100l1 _ _=_ at key2
 generalize codeT t=c2 at*
 generalize codeG t=c1 at*
 rw[den_fn t100 _ _ _ rfl]
 simp only[b100]
 simp (maxSteps:=1000000) (disch:=first|omega|assumption|decide +kernel|(simp;done)|(simp;omega)|fail) [key,key2]
end Go.Proofs.Ytbcjofkfgpbhmaa

/-
  Doors, the reference: least, if worth is what it should be.
-/
namespace Go.Proofs.Ytbcjofkfgpbhmaa
open Go.Ab
open Classical in
noncomputable def wCode(t0:DTrap):List Int→Int
 |[c]=>if h: ∃t,SameS t0 t∧DoorOk t∧codeT t=c then worthT h.choose h.choose.turns.toNat else 0
 |_=>0
theorem wCode_eq {t0 t:DTrap}(hs:SameS t0 t)(h:DoorOk t):wCode t0 [codeT t]=worthT t t.turns.toNat:=by
 have hex: ∃t',SameS t0 t'∧DoorOk t'∧codeT t'=codeT t:=⟨t,hs,h,rfl⟩
 simp only[wCode]
 rw[dif_pos hex]
 obtain⟨h1,h2,h3⟩:=hex.choose_spec
 have:hex.choose=t:=code_inj (h1.symm.trans hs) h2 h h3
 rw[this]
abbrev MemR(t0:DTrap):=Mem (wCode t0)
structure MapD(dm lm L:Nat)(S:List (List Int×Int)→Stk):Prop where
 len: ∀K,(S K).length=L
 ltm:dm<L
 mem: ∀K,sget (S K) dm lm=some (.mp none K)
 put: ∀K K',sput (S K) dm lm (.mp none K')=S K'
theorem MapD.push {dm lm L S}(G:MapD dm lm L S)(X:Stk):MapD dm lm (X.length+L) (fun K=>X ++S K) where
 len:=fun K=>by rw[List.length_append,G.len]
 ltm:=by have:=G.ltm;omega
 mem:=fun K=>by rw[sget_append _ _ _ _ (by rw[G.len];exact G.ltm),G.mem]
 put:=fun K K'=>by rw[sput_append _ _ _ _ _ (by rw[G.len];exact G.ltm),G.put]
def WorthD(t0:DTrap)(k:Nat)(f:DTrap→MemR t0→MemR t0):Prop:= ∀ {dm lm L:Nat} {S:List (List Int×Int)→Stk},MapD dm lm L S→
 ∀(t:DTrap),SameS t0 t→DoorOk t→t.turns=(k:Nat)→ ∀(K:MemR t0) (lab:Nat),den T 78 [.agg (dV t), .mp (.ptr dm lm 0)] lab (S K.1)=some (i64 (worthT t k),S (f t K).1)
def leastK(t0:DTrap)(f:DTrap→MemR t0→MemR t0)(t:DTrap)(K:MemR t0):MemR t0:=(movesS (waysL t)).foldl (fun K m=>f (movedT t m) K) K
def stepL(w:List Int→Int)(l:List (List Int))(a:Nat×Int)(k:Nat):Nat×Int:=if w (l.getD (k+1) [])<a.2 then(k+1,w (l.getD (k+1) []))else a
theorem stepL_inv(w:List Int→Int)(l:List (List Int)): ∀n,((List.range n).foldl (stepL w l) (0,w (l.getD 0 []))).1≤n∧((List.range n).foldl (stepL w l) (0,w (l.getD 0 []))).2=w (l.getD ((List.range n).foldl (stepL w l) (0,w (l.getD 0 []))).1 [])∧
 (∀i,i≤n→((List.range n).foldl (stepL w l) (0,w (l.getD 0 []))).2≤w (l.getD i []))∧ ∀i,i<((List.range n).foldl (stepL w l) (0,w (l.getD 0 []))).1→((List.range n).foldl (stepL w l) (0,w (l.getD 0 []))).2<w (l.getD i [])
 |0=>by
   refine⟨Nat.le_refl _,rfl,fun i hi=> ?_,fun i hi=> ?_⟩
   ·obtain rfl:i=0:=by omega
    exact Int.le_refl _
   ·exact absurd hi (by simp)
 |n+1=>by
   obtain⟨h1,h2,h3,h4⟩:=stepL_inv w l n
   rw[List.range_succ,List.foldl_append]
   simp only[List.foldl_cons,List.foldl_nil]
   generalize (List.range n).foldl (stepL w l) (0,w (l.getD 0 []))=a at*
   unfold stepL
   by_cases hc:w (l.getD (n+1) [])<a.2
   ·rw[if_pos hc]
    refine⟨Nat.le_refl _,rfl,fun i hi=> ?_,fun i hi=> ?_⟩
    ·by_cases e:i=n+1
     ·rw[e];exact Int.le_refl _
     ·have:=h3 i (by omega);simp only;omega
    ·have:=h3 i (by simp only at hi;omega);simp only;omega
   ·rw[if_neg hc]
    refine⟨by omega,h2,fun i hi=> ?_,h4⟩
    by_cases e:i=n+1
    ·rw[e];omega
    ·exact h3 i (by omega)
theorem moved_same {t0 t:DTrap}(hs:SameS t0 t)(m:List Int):SameS t0 (movedT t m):=⟨hs.ch,hs.ha,hs.ga,(fishL_moved t m).trans hs.fi⟩
theorem changed_same {t0 t:DTrap}(hs:SameS t0 t)(c:List Int):SameS t0 (changedT t c):=⟨hs.ch,hs.ha,by
 rw[←hs.ga]
 apply List.ext_getElem?
 intro i
 simp only[changedT,List.getElem?_map,flipS_get]
 cases t.gates[i]? with
 |none=>rfl
 |some g=>
   simp only[Option.map_some]
   split<;>rfl,hs.fi⟩
def leastV(t:DTrap)(k:Nat):Int:=minL ((movesS (waysL t)).map fun m=>worthT (movedT t m) k)
def firstV(t:DTrap)(k:Nat):List Int:=((movesS (waysL t)).find? fun m=>decide (worthT (movedT t m) k=leastV t k)).getD []
theorem least_fold(t:DTrap)(k:Nat)(hne:movesS (waysL t)≠[]): ∃b,(List.range ((movesS (waysL t)).length-1)).foldl (stepL (fun m=>worthT (movedT t m) k) (movesS (waysL t))) (0,worthT (movedT t ((movesS (waysL t)).getD 0 [])) k)=(b,leastV t k)∧b<(movesS (waysL t)).length∧(movesS (waysL t)).getD b []=firstV t k:=by
 have hl:=List.length_pos_iff.2 hne
 obtain⟨h1,h2,h3,h4⟩:=stepL_inv (fun m=>worthT (movedT t m) k) (movesS (waysL t)) ((movesS (waysL t)).length-1)
 generalize hL:movesS (waysL t)=l at*
 generalize (List.range (l.length-1)).foldl (stepL (fun m=>worthT (movedT t m) k) l) (0,worthT (movedT t (l.getD 0 [])) k)=a at*
 obtain⟨b,v⟩:=a
 simp only at h1 h2 h3 h4
 have hb:b<l.length:=by omega
 have hgb:l.getD b []=l[b]:=by simp[List.getD,hb]
 have hv:v=leastV t k:=by
  unfold leastV
  rw[hL]
  refine Int.le_antisymm (le_minL (by simpa using hne) fun x hx=> ?_) ?_
  ·obtain⟨m,hm,rfl⟩:=List.mem_map.1 hx
   obtain⟨i,hi,rfl⟩:=List.getElem_of_mem hm
   have:=h3 i (by omega)
   have hg:l.getD i []=l[i]:=by simp[List.getD,hi]
   rw[hg]at this
   exact this
  ·rw[h2,hgb]
   exact minL_le (List.mem_map.2 ⟨_,List.getElem_mem hb,rfl⟩)
 refine⟨b,by rw[hv],hb,?_⟩
 unfold firstV
 rw[hL,hgb]
 have hf:l.find? (fun m=>decide (worthT (movedT t m) k=leastV t k))=some l[b]:=by
  rw[List.find?_eq_some_iff_getElem]
  refine⟨by rw[decide_eq_true_eq,←hv,h2,hgb],b,hb,rfl,fun j hj=> ?_⟩
  have:=h4 j hj
  have hg:l.getD j []=l[j]:=by simp[List.getD,show j<l.length by omega]
  rw[hg,hv]at this
  simp only[Bool.not_eq_true',decide_eq_false_iff_not]
  omega
 rw[hf];rfl
end Go.Proofs.Ytbcjofkfgpbhmaa

/-
  Doors, the reference: least and worth.
-/
namespace Go.Proofs.Ytbcjofkfgpbhmaa
open Go.Ab
theorem foldl_pairI {σ τ:Type}(f:σ→Nat→σ)(g:τ→Nat→τ): ∀(l:List Nat) (a:σ) (b:τ),l.foldl (fun(p:σ×τ) x=>(f p.1 x,g p.2 x)) (a,b)=(l.foldl f a,l.foldl g b)
 |[],_,_=>rfl
 |x::l,a,b=>by simp only[List.foldl_cons,foldl_pairI f g l]
theorem foldl_tail {σ:Type}(g:σ→List Int→σ)(l:List (List Int))(hne:l≠[])(K:σ):(List.range (l.length-1)).foldl (fun K k=>g K (l.getD (k+1) [])) (g K (l.getD 0 []))=l.foldl g K:=by
 cases l with
 |nil=>exact absurd rfl hne
 |cons x r=>
   simp only[List.length_cons,Nat.add_sub_cancel,List.getD_cons_zero,List.getD_cons_succ,List.foldl_cons]
   generalize g K x=K1
   induction r generalizing K1 with
   |nil=>rfl
   |cons y r ih=>
     rw[List.length_cons,List.range_succ_eq_map,List.foldl_cons,List.foldl_map]
     simp only[List.getD_cons_zero,List.getD_cons_succ,List.foldl_cons]
     exact ih (by simp) _
theorem worthT_range {t:DTrap}(h:DoorOk t)(k:Nat):0≤worthT t k∧worthT t k≤297:=by
 have:=wO_range h k (gN t) (nAt t)
 rw[wO_start h]at this
 exact this
set_option maxHeartbeats 8000000 in
theorem e_least {t0:DTrap} {k:Nat} {f}(hf:WorthD t0 k f) {dm lm L:Nat} {S:List (List Int×Int)→Stk}(G:MapD dm lm L S)(t:DTrap)(hs:SameS t0 t)(h:DoorOk t)(hT:t.turns=((k+1:Nat):Int))(K:MemR t0)(lab):
 den T 75 [.agg (dV t), .mp (.ptr dm lm 0)] lab (S K.1)=some (.tup [i64 (leastV t k), .sl .no 1 (es cInt (firstV t k))],S (leastK t0 f t K).1):=by
 have hL:=G.len
 have hd:=G.ltm
 have e1: ¬dm=L:=by omega
 have htu:=h.tu
 have hol:=h.ol
 have hshort:=doorB_short (doorB_iff.2 h)
 have hm0:=fun lab s=>e_movesOf t h t.groups.length [] (by simp) lab s
 have hM:restM t []=movesS (waysL t):=by unfold restM;simp
 rw[hM]at hm0
 simp only[es_nil]at hm0
 have hne:movesS (waysL t)≠[]:=moves_ne _ _ _
 have hlen:(movesS (waysL t)).length≤125:=by rw[←hM];exact restM_len h []
 have hl0:=List.length_pos_iff.2 hne
 have hmem: ∀i,(hi:i<(movesS (waysL t)).length)→DoorOk (movedT t (movesS (waysL t))[i])∧SameS t0 (movedT t (movesS (waysL t))[i])∧(movedT t (movesS (waysL t))[i]).turns=(k:Nat)∧(movesS (waysL t))[i].length=t.groups.length:=fun i hi=>by
  have hx:=List.getElem_mem hi
  refine⟨moved_ok h (by omega) hx,moved_same hs _,by simp only[movedT];omega,?_⟩
  have:=(mem_moves.1 hx).1
  simpa [posL]using this
 obtain⟨b,hb1,hb2,hb3⟩:=least_fold t k hne
 have hk1:=foldl_tail (fun(K:MemR t0) m=>f (movedT t m) K) (movesS (waysL t)) hne K
 have hmv:=fun i hi lab s=>e_Moved t hshort ⟨by omega,htu.2⟩ (movesS (waysL t))[i] (hmem i hi).2.2.2 lab s
 have hwt:=fun i (hi:i<(movesS (waysL t)).length) (K:MemR t0) lab=>hf (G.push [[(32, .cell (dV t))]]) (movedT t (movesS (waysL t))[i]) (hmem i hi).2.1 (hmem i hi).1 (hmem i hi).2.2.1 K lab
 have hwr:=fun i (hi:i<(movesS (waysL t)).length)=>worthT_range (hmem i hi).1 k
 unfold leastK
 rw[←hk1]
 clear hmem hf
 generalize hML:movesS (waysL t)=ML at*
 simp only[List.cons_append,List.nil_append]at hwt
 have key:=loop_fold (T:=Go.Proofs.Ytbcjofkfgpbhmaa.T) (live:=[1,2,6,7,8,9]) (keep:=[32,192,272,304]) (b:=d75l0) (List.range (ML.length-1)) (fun j (a:(Nat×Int)×MemR t0)=>a.1.1≤j)
  (fun a j=>(stepL (fun m=>worthT (movedT t m) k) ML a.1 j,f (movedT t (ML.getD (j+1) [])) a.2))
  (fun j a=>[(1, .mp (.ptr dm lm 0)),(2, .ptr L 32 0),(6, .sl .no 1 (es cInts ML)),(7,i64 (a.1.1:Nat)),(8,i64 a.1.2),(9,i64 ((j+1:Nat):Int))]) (fun _ a=>[(32, .cell (dV t))]::S a.2.1)
  (fun a=>(.exit 0,[(1, .mp (.ptr dm lm 0)),(2, .ptr L 32 0),(6, .sl .no 1 (es cInts ML)),(7,i64 (a.1.1:Nat)),(8,i64 a.1.2),(9,i64 ML.length),(23, .bool false)],[(32, .cell (dV t))]::S a.2.1))
  (by simp) ?_ ?_ ?_ ((0,worthT (movedT t (ML.getD 0 [])) k),f (movedT t (ML.getD 0 [])) K) (by simp) [(1, .mp (.ptr dm lm 0)),(2, .ptr L 32 0),(6, .sl .no 1 (es cInts ML)),(7,i64 0),(8,i64 (worthT (movedT t (ML.getD 0 [])) k)),(9,i64 1)] ([(32, .cell (dV t))]::S (f (movedT t (ML.getD 0 [])) K).1) (by simp[hL,e1]) (by simp[hL])
 ·rw[foldl_pairI (stepL (fun m=>worthT (movedT t m) k) ML) (fun(K:MemR t0) j=>f (movedT t (ML.getD (j+1) [])) K),hb1]at key
  change Run T b75l0 _ _=_ at key
  have hg0:ML.getD 0 []=ML[0]:=by simp[List.getD,hl0]
  have hgb:ML[b]=firstV t k:=by rw[←hb3];simp[List.getD,hb2]
  have hmv0:=hmv 0 hl0
  have hwt0:=hwt 0 hl0 K
  have hbi:(b:Int)<ML.length:=by omega
  have hl0i:(0:Int)<ML.length:=by omega
  rw[hg0]at key
  rw[hg0]
  clear hmv hwt hb1 hb3 hg0
  generalize List.foldl (fun(K:MemR t0) j=>f (movedT t (ML.getD (j+1) [])) K) (f (movedT t ML[0]) K) (List.range (ML.length-1))=K' at*
  generalize worthT (movedT t ML[0]) k=w0 at*
  generalize f (movedT t ML[0]) K=K0 at*
  generalize movedT t ML[0]=u0 at*
  generalize firstV t k=FV at*
  generalize leastV t k=LV at*
  generalize hm00:ML[0]=m00 at*
  rw[den_fn t75 _ _ _ rfl]
  simp only[b75]
  simp (maxSteps:=1000000) (disch:=first|omega|assumption|decide +kernel|(simp;done)|(simp;omega)|fail) [run_drawnK,orSlow_none,hL,e1,hm0,hl0,hl0i,hm00,hmv0,hwt0,key,hb2,hbi,hgb]
 ·intro j a hj hi
  obtain⟨⟨b1,v⟩,K1⟩:=a
  simp only[List.length_range]at hj
  simp only[List.getElem_range]
  have hj1:j+1<ML.length:=by omega
  have hj2:(j:Int)+1<ML.length:=by omega
  have hjt:((j:Int)+1).toNat=j+1:=by omega
  have hg:ML.getD (j+1) []=ML[j+1]:=by simp[List.getD,hj1]
  have hmv1:=hmv (j+1) hj1
  have hwt1:=hwt (j+1) hj1 K1
  have hwr1:=hwr (j+1) hj1
  have hw2:IntKind.i64.wrap ((j:Int)+1+1)=(j:Int)+1+1:=wi _ (by omega) (by omega)
  have hj0:(0:Int)≤(j:Int)+1:=by omega
  simp only[stepL,hg]
  clear hmv hwt hwr
  generalize worthT (movedT t ML[j+1]) k=w at*
  generalize f (movedT t ML[j+1]) K1=K2 at*
  generalize movedT t ML[j+1]=u2 at*
  generalize hm1:ML[j+1]=m1 at*
  by_cases hc:w<v
  ·simp (maxSteps:=1000000) (disch:=first|omega|assumption|decide +kernel|(simp;done)|(simp;omega)|fail) [run_drawnK,orSlow_none,hL,e1,hj0,hj1,hj2,hjt,hm1,hmv1,hwt1,hw2,hc]
  ·simp (maxSteps:=1000000) (disch:=first|omega|assumption|decide +kernel|(simp;done)|(simp;omega)|fail) [run_drawnK,orSlow_none,hL,e1,hj0,hj1,hj2,hjt,hm1,hmv1,hwt1,hw2,hc]
 ·intro j a hj hi
  simp only[List.getElem_range]
  unfold stepL
  split
  ·exact Nat.le_refl _
  ·omega
 ·intro a hi
  have hx:(((ML.length-1+1:Nat)):Int)=ML.length:=by omega
  simp only[List.length_range,hx]
  simp
end Go.Proofs.Ytbcjofkfgpbhmaa

/-
  Doors: the moves, one by one.
-/
import Derived.Test.YtbcjofkfgpbhmaaGreatEq1
set_option linter.unusedSimpArgs false
set_option linter.unusedVariables false
namespace Go.Proofs.YtbcjofkfgpbhmaaGreat
open Go.Ab
abbrev sceneL(T o:Int)(n:List Int):List V:=i64 T::i64 o::n.map i64
def fromY {σ:Type}(Y:σ→List Int→σ×Bool):List (List Int)→Nat→List Int×σ→(List Int×σ)×Bool
 |[],_,p=>((p.1,(Y p.2 p.1).1),(Y p.2 p.1).2)
 |w::r,j,p=>foldB (fun p x=>fromY Y r (j+1) (p.1.set j x,p.2)) w p
def InN(t:DTrap)(n:List Int):Prop:=n.length=3∧ ∀i,i<t.groups.length→0≤n.getD i 0∧n.getD i 0≤t.chambers-1
structure YieldD(t:DTrap)(C:List Int)(m:V)(σ:Type)(d l db lb dg lg D:Nat)(T' o' T o:Int)(n0:List Int)(St:List Int→σ→Stk)(Y:σ→List Int→σ×Bool)(ok:σ→Prop):Prop where
 len: ∀n a,(St n a).length=D
 ltd:d<D
 ltb:db<D
 ltg:dg<D
 gbox: ∀n a,sget (St n a) db lb=some (.cell [.ptr dg lg 0])
 game: ∀n a,sget (St n a) dg lg=some (.cell (gameV t C m))
 next: ∀n a,sget (St n a) db (lb+1000)=some (.cell (sceneL T o n))
 scene: ∀n a,sget (St n a) db (lb+2000)=some (.cell (sceneL T' o' n0))
 put: ∀n n' a,sput (St n a) db (lb+1000) (.cell (sceneL T o n'))=St n' a
 yield: ∀(fr:Stk) n a lab,InN t n→ok a→denV Go.Proofs.YtbcjofkfgpbhmaaGreat.T (.yld d l) [.agg (sceneL T o n)] lab (fr ++St n a)=some (.bool (Y a n).2,fr ++St n (Y a n).1)
 keep: ∀n a,InN t n→ok a→(Y a n).2=true→ok (Y a n).1
def movesFrame(d l db lb D:Nat):Ab.Loc:=[(64, .cell [.yld d l]),(80, .cell [.fn 58 [] [.ptr db lb 0, .ptr D 64 0, .ptr db (lb+1000) 0, .ptr db (lb+2000) 0, .ptr D 80 0]])]
theorem sget_append(d l:Nat): ∀(fr S:Stk),d<S.length→sget (fr ++S) d l=sget S d l
 |[],_,_=>rfl
 |x::fr,S,h=>by
   rw[List.cons_append,sget_cons,if_neg (by simp;omega)]
   exact sget_append d l fr S h
theorem sput_append(d l:Nat)(x:Entry): ∀(fr S:Stk),d<S.length→sput (fr ++S) d l x=fr ++sput S d l x
 |[],_,_=>rfl
 |y::fr,S,h=>by
   rw[List.cons_append,sput_cons,if_neg (by simp;omega),sput_append d l x fr S h];rfl
theorem foldB_congr {α σ:Type} {f g:σ→α→σ×Bool}: ∀ {l:List α} {a:σ},(∀x,x∈l→ ∀a,f a x=g a x)→foldB f l a=foldB g l a
 |[],_,_=>rfl
 |x::l,a,h=>by
   simp only[foldB,h x (by simp)]
   split
   ·exact foldB_congr fun y hy=>h y (by simp[hy])
   ·rfl
theorem waysS_len {n:Nat} {gs:List DGate} {p:Int}:(waysS n gs p).length≤n+1:=by
 unfold waysS
 dsimp only
 split
 ·simp
 ·have:=List.length_filter_le (wayB gs p) (rangeI n)
  simp only[rangeI,List.length_map,List.length_range]at this⊢;omega
theorem foldB_inv {α σ:Type} {f:σ→α→σ×Bool} {I:σ→Prop}: ∀ {l:List α} {a:σ},(∀a x,x∈l→I a→I (f a x).1)→I a→I (foldB f l a).1
 |[],_,_,h=>h
 |x::l,a,hs,h=>by
   simp only[foldB]
   split
   ·exact foldB_inv (fun a y hy=>hs a y (by simp[hy])) (hs a x (by simp) h)
   ·exact hs a x (by simp) h
theorem fromY_keep {σ:Type}(Y:σ→List Int→σ×Bool): ∀(W:List (List Int)) (j:Nat) (p:List Int×σ),(fromY Y W j p).1.1.length=p.1.length∧ ∀i,i<j→(fromY Y W j p).1.1.getD i 0=p.1.getD i 0
 |[],j,p=>⟨rfl,fun _ _=>rfl⟩
 |w::W,j,p=>by
   simp only[fromY]
   refine foldB_inv (I:=fun q:List Int×σ=>q.1.length=p.1.length∧ ∀i,i<j→q.1.getD i 0=p.1.getD i 0) (fun q x _ hq=> ?_) ⟨rfl,fun _ _=>rfl⟩
   obtain⟨h1,h2⟩:=fromY_keep Y W (j+1) (q.1.set j x,q.2)
   refine⟨by rw[h1,List.length_set,hq.1],fun i hi=> ?_⟩
   rw[h2 i (by omega),←hq.2 i hi]
   simp only[List.getD,List.getElem?_set,show¬j=i by omega,if_false]
theorem foldB_inv2 {α σ:Type} {f:σ→α→σ×Bool} {I:σ→Prop}: ∀ {l:List α} {a:σ},(∀a x,x∈l→I a→(f a x).2=true→I (f a x).1)→I a→(foldB f l a).2=true→I (foldB f l a).1
 |[],_,_,h,_=>h
 |x::l,a,hs,h,hb=>by
   simp only[foldB]at hb⊢
   split at hb
   ·rename_i h1
    rw[if_pos h1]
    exact foldB_inv2 (fun a y hy=>hs a y (by simp[hy])) (hs a x (by simp) h h1) hb
   ·rename_i h1
    rw[if_neg h1]
    exact absurd hb h1
set_option maxHeartbeats 8000000 in
theorem e_fromD(t:DTrap)(hch:t.chambers≤4)(hl:t.gates.length≤5)(ho3:t.groups.length≤3)(hg: ∀g∈t.gates,(0≤g.a∧g.a≤t.chambers-1)∧(0≤g.b∧g.b≤t.chambers-1)∧g.a≠g.b) {C:List Int} {m:V} {σ:Type} {d l db lb dg lg D:Nat} {T' o' T1:Int} {o:Nat}(ho:o<32) {n0:List Int}(hn0:InN t n0)
 {St:List Int→σ→Stk} {Y:σ→List Int→σ×Bool} {ok:σ→Prop} (y:YieldD t C m σ d l db lb dg lg D T' o' T1 (o:Nat) n0 St Y ok):
 ∀(W:List (List Int)) (j:Nat),j+W.length=t.groups.length→W=((n0.take t.groups.length).drop j).map (waysS t.chambers.toNat (openG o t.gates))→ ∀(n:List Int),n.length=3→(∀i,i<j→0≤n.getD i 0∧n.getD i 0≤t.chambers-1)→ ∀(fr:Stk) (a:σ),ok a→((fromY Y W j (n,a)).2=true→ok (fromY Y W j (n,a)).1.2)∧ ∀(lab:Nat),
  den T 58 [i64 (j:Nat), .ptr db lb 0, .ptr D 64 0, .ptr db (lb+1000) 0, .ptr db (lb+2000) 0, .ptr D 80 0] lab (fr ++movesFrame d l db lb D::St n a)=
   some (.bool (fromY Y W j (n,a)).2,fr ++movesFrame d l db lb D::St (fromY Y W j (n,a)).1.1 (fromY Y W j (n,a)).1.2):=by
 have hlt:=y.ltd
 have hltb:=y.ltb
 have hltg:=y.ltg
 have facts: ∀(fr:Stk) (n:List Int) (a:σ),sget (fr ++movesFrame d l db lb D::St n a) D 64=some (.cell [.yld d l])∧
  sget (fr ++movesFrame d l db lb D::St n a) D 80=some (.cell [.fn 58 [] [.ptr db lb 0, .ptr D 64 0, .ptr db (lb+1000) 0, .ptr db (lb+2000) 0, .ptr D 80 0]])∧
  sget (fr ++movesFrame d l db lb D::St n a) db lb=some (.cell [.ptr dg lg 0])∧sget (fr ++movesFrame d l db lb D::St n a) dg lg=some (.cell (gameV t C m))∧
  sget (fr ++movesFrame d l db lb D::St n a) db (lb+1000)=some (.cell (sceneL T1 (o:Nat) n))∧sget (fr ++movesFrame d l db lb D::St n a) db (lb+2000)=some (.cell (sceneL T' o' n0))∧
  (∀n',sput (fr ++movesFrame d l db lb D::St n a) db (lb+1000) (.cell (sceneL T1 (o:Nat) n'))=fr ++movesFrame d l db lb D::St n' a)∧
  D<(fr ++movesFrame d l db lb D::St n a).length:=by
  intro fr n a
  have hln:=y.len n a
  have g: ∀l',sget (fr ++movesFrame d l db lb D::St n a) D l'=(movesFrame d l db lb D).get l':=fun l'=>by
   rw[sget_append _ _ _ _ (by simp only[List.length_cons];omega),←hln,sget_top]
  have low: ∀d' l',d'<D→sget (fr ++movesFrame d l db lb D::St n a) d' l'=sget (St n a) d' l':=fun d' l' hd=>by
   rw[show fr ++movesFrame d l db lb D::St n a=(fr ++[movesFrame d l db lb D]) ++St n a by simp,sget_append _ _ _ _ (by omega)]
  refine⟨by rw[g];rfl,by rw[g];rfl,by rw[low _ _ hltb,y.gbox],by rw[low _ _ hltg,y.game],by rw[low _ _ hltb,y.next],by rw[low _ _ hltb,y.scene],fun n'=> ?_,?_⟩
  ·rw[show fr ++movesFrame d l db lb D::St n a=(fr ++[movesFrame d l db lb D]) ++St n a by simp,sput_append _ _ _ _ _ (by omega),y.put];simp
  ·simp only[List.length_append,List.length_cons];omega
 intro W
 induction W with
 |nil=>
   intro j hj hW n hn hin fr a hok
   refine⟨fun hb=>y.keep n a ⟨hn,fun i hi=>hin i (by simp at hj;omega)⟩ hok hb,fun lab=> ?_⟩
   obtain⟨h64,h80,hgb,hga,hnx,hsc,hput,hD⟩:=facts fr n a
   have hyy:=y.yield ([]::(fr ++[movesFrame d l db lb D])) n a
   simp only[List.cons_append,List.append_assoc,List.nil_append]at hyy
   have hy2:=fun lab=>hyy lab ⟨hn,fun i hi=>hin i (by simp at hj;omega)⟩ hok
   have hj2:(j:Int)=t.groups.length:=by simp at hj;omega
   simp only[fromY]
   generalize Y a n=q at hy2⊢
   obtain⟨a',bb⟩:=q
   obtain⟨x0,x1,x2,rfl⟩: ∃x0 x1 x2,n=[x0,x1,x2]:=by
    match n,hn with
    |[x0,x1,x2],_=>exact⟨x0,x1,x2,rfl⟩
   generalize fr ++movesFrame d l db lb D::St [x0,x1,x2] a=X at*
   generalize fr ++movesFrame d l db lb D::St [x0,x1,x2] a'=X' at*
   have e1: ¬D=X.length:=by omega
   have e2: ¬db=X.length:=by omega
   have e3: ¬dg=X.length:=by omega
   have e4: ¬d=X.length:=by omega
   simp only[sceneL,List.map_cons,List.map_nil]at hy2 hnx hsc
   rw[den_fn t58 _ _ _ rfl]
   simp only[b58]
   simp (maxSteps:=1000000) (disch:=first|omega|assumption|decide +kernel|(simp;done)|(simp;omega)|fail) [h64,hgb,hga,hnx,hsc,e1,e2,e3,e4,hy2,hj2]
 |cons w W ih=>
   intro j hj hW n hn hin fr a hok
   have hjl:j<t.groups.length:=by simp at hj;omega
   have hj3:j<3:=by omega
   obtain⟨hn0l,hn0r⟩:=hn0
   have htl:(n0.take t.groups.length).length=t.groups.length:=by simp;omega
   have hdrop:(n0.take t.groups.length).drop j=n0.getD j 0::(n0.take t.groups.length).drop (j+1):=by
    rw[List.drop_eq_getElem_cons (by omega)]
    congr 1
    simp[List.getD,show j<n0.length by omega]
   rw[hdrop,List.map_cons]at hW
   simp only[List.cons.injEq]at hW
   obtain⟨hw,hW'⟩:=hW
   have hwr: ∀x,x∈w→0≤x∧x≤t.chambers-1:=fun x hx=>by
    rw[hw]at hx
    have h1:=hn0r j hjl
    have:=waysS_range (by omega) hx
    omega
   have hch0:=hn0r j hjl
   have hwl:w.length<1000000:=by
    rw[hw]
    have:=waysS_len (n:=t.chambers.toNat) (gs:=openG o t.gates) (p:=n0.getD j 0)
    have h4:=hch
    omega
   obtain⟨X,hX⟩: ∃X:List Int→σ→Stk,∀n a,fr ++movesFrame d l db lb D::St n a=X n a:=⟨_,fun _ _=>rfl⟩
   have fx: ∀(n:List Int) (a:σ),sget (X n a) D 64=some (.cell [.yld d l])∧
    sget (X n a) D 80=some (.cell [.fn 58 [] [.ptr db lb 0, .ptr D 64 0, .ptr db (lb+1000) 0, .ptr db (lb+2000) 0, .ptr D 80 0]])∧
    sget (X n a) db lb=some (.cell [.ptr dg lg 0])∧sget (X n a) dg lg=some (.cell (gameV t C m))∧
    sget (X n a) db (lb+1000)=some (.cell (sceneL T1 (o:Nat) n))∧sget (X n a) db (lb+2000)=some (.cell (sceneL T' o' n0))∧
    (∀n',sput (X n a) db (lb+1000) (.cell (sceneL T1 (o:Nat) n'))=X n' a)∧D<(X n a).length:=fun n a=>by
    have:=facts fr n a;simp only[hX]at this;exact this
   have hI:=fun(n':List Int) (h3:n'.length=3) (hr: ∀i,i<j+1→0≤n'.getD i 0∧n'.getD i 0≤t.chambers-1) a' (ha:ok a')=>ih (j+1) (by simp at hj;omega) hW' n' h3 hr ([]::fr) a' ha
   simp only[List.cons_append,hX]at hI
   have hokW:(fromY Y (w::W) j (n,a)).2=true→ok (fromY Y (w::W) j (n,a)).1.2:=fun hb=>by
    simp only[fromY]at hb⊢
    refine(foldB_inv2 (I:=fun p:List Int×σ=>p.1.length=3∧(∀i,i<j→0≤p.1.getD i 0∧p.1.getD i 0≤t.chambers-1)∧ok p.2) (fun p x hx hp hpb=> ?_) ⟨hn,hin,hok⟩ hb).2.2
    obtain⟨p1,p2⟩:=p
    obtain⟨q1,q2,q3⟩:=hp
    simp only at q1 q2 q3 hpb⊢
    have hkw:=hwr _ hx
    have hset:(p1.set j x).length=3:=by rw[List.length_set,q1]
    have hst2: ∀i,i<j+1→0≤(p1.set j x).getD i 0∧(p1.set j x).getD i 0≤t.chambers-1:=fun i hi=>by
     by_cases e:i=j
     ·subst e
      simp only[List.getD,List.getElem?_set,if_true,show i<p1.length by omega]
      exact hkw
     ·have:=q2 i (by omega)
      simp only[List.getD,List.getElem?_set,show¬j=i by omega,if_false]at this⊢
      exact this
    have hkeep:=fromY_keep Y W (j+1) (p1.set j x,p2)
    simp only at hkeep
    refine⟨by rw[hkeep.1];exact hset,fun i hi=> ?_,(ih (j+1) (by simp at hj;omega) hW' _ hset hst2 [] p2 q3).1 hpb⟩
    rw[hkeep.2 i (by omega)]
    exact hst2 i (by omega)
   refine⟨hokW,fun lab=> ?_⟩
   rw[hX,hX]
   have hne: ¬(j:Int)=t.groups.length:=by omega
   have hway:=fun n a lab=>e_ways t hl hg C m o ho (n0.getD j 0) dg lg ([]::X n a) (by have:=(fx n a).2.2.2.2.2.2.2;simp;omega) (by rw[sget_cons,if_neg (by have:=(fx n a).2.2.2.2.2.2.2;omega)];exact(fx n a).2.2.2.1) lab
   rw[←hw]at hway
   obtain⟨z0,z1,z2,hz⟩: ∃x0 x1 x2,n0=[x0,x1,x2]:=by
    match n0,hn0l with
    |[x0,x1,x2],_=>exact⟨x0,x1,x2,rfl⟩
   have key:=fun p0 (hp0:p0.1.length=3∧(∀i,i<j→0≤p0.1.getD i 0∧p0.1.getD i 0≤t.chambers-1)∧ok p0.2)=>loop_list_e (T:=Go.Proofs.YtbcjofkfgpbhmaaGreat.T) (live:=[0,3,5,26,27,28]) (keep:=[288,416]) (b:=d58l0) w
    (fun _ (p:List Int×σ)=>p.1.length=3∧(∀i,i<j→0≤p.1.getD i 0∧p.1.getD i 0≤t.chambers-1)∧ok p.2)
    (fun k _=>[(0,i64 (j:Nat)),(3, .ptr db (lb+1000) 0),(5, .ptr D 80 0),(26, .sl .no 1 (es cInt w)),(27,i64 w.length),(28,i64 (k:Nat))]) (fun _ p=>[]::X p.1 p.2)
    (fun p x=>fromY Y W (j+1) (p.1.set j x,p.2))
    (fun(g:Ab.Loc) p=>(.ret,[(7, .bool false)],g::X p.1 p.2)) (fun p=>(.exit 0,[(0,i64 (j:Nat)),(3, .ptr db (lb+1000) 0),(5, .ptr D 80 0),(26, .sl .no 1 (es cInt w)),(27,i64 w.length),(28,i64 w.length),(29, .bool false)],[]::X p.1 p.2))
    (by simp) (by simp) ?_ ?_ p0 hp0 [(0,i64 (j:Nat)),(3, .ptr db (lb+1000) 0),(5, .ptr D 80 0),(26, .sl .no 1 (es cInt w)),(27,i64 w.length),(28,i64 0)] ([]::X p0.1 p0.2) (by have:=(fx p0.1 p0.2).2.2.2.2.2.2.2;simp[show¬D=(X p0.1 p0.2).length by omega,show¬db=(X p0.1 p0.2).length by omega]) (by simp)
   ·obtain⟨g,hgk⟩:=key (n,a) ⟨hn,hin,hok⟩
    change Run Go.Proofs.YtbcjofkfgpbhmaaGreat.T b58l0 _ _=_ at hgk
    simp only[fromY]
    generalize foldB (fun p x=>fromY Y W (j+1) (p.1.set j x,p.2)) w (n,a)=q at hgk
    obtain⟨⟨n',a'⟩,bb⟩:=q
    obtain⟨h64,h80,hgb,hga,hnx,hsc,hput,hD⟩:=fx n a
    have e1: ¬D=(X n a).length:=by omega
    have e2: ¬db=(X n a).length:=by omega
    have e3: ¬dg=(X n a).length:=by omega
    have hw2:=hway n a
    subst hz
    simp only[sceneL,List.map_cons,List.map_nil]at hsc hnx
    rw[den_fn t58 _ _ _ rfl]
    simp only[b58]
    obtain rfl|rfl|rfl:j=0∨j=1∨j=2:=by omega
    ·skip
     simp only[List.getD_cons_zero]at hw2
     have hne2: ¬(0:Int)=t.groups.length:=by omega
     change Run _ _ [(0,i64 0),_,_,_,_,_] _=_ at hgk
     cases bb<;>simp (maxSteps:=1000000) (disch:=first|omega|assumption|decide +kernel|(simp;done)|(simp;omega)|fail) [run_drawnK,orSlow_none,h64,hgb,hga,hnx,hsc,e1,e2,e3,hne2,hw2,hgk]
    ·skip
     simp only[List.getD_cons_succ,List.getD_cons_zero]at hw2
     have hne2: ¬(1:Int)=t.groups.length:=by omega
     change Run _ _ [(0,i64 1),_,_,_,_,_] _=_ at hgk
     cases bb<;>simp (maxSteps:=1000000) (disch:=first|omega|assumption|decide +kernel|(simp;done)|(simp;omega)|fail) [run_drawnK,orSlow_none,h64,hgb,hga,hnx,hsc,e1,e2,e3,hne2,hw2,hgk]
    ·skip
     simp only[List.getD_cons_succ,List.getD_cons_zero]at hw2
     have hne2: ¬(2:Int)=t.groups.length:=by omega
     change Run _ _ [(0,i64 2),_,_,_,_,_] _=_ at hgk
     cases bb<;>simp (maxSteps:=1000000) (disch:=first|omega|assumption|decide +kernel|(simp;done)|(simp;omega)|fail) [run_drawnK,orSlow_none,h64,hgb,hga,hnx,hsc,e1,e2,e3,hne2,hw2,hgk]
   ·intro k p hk hp
    obtain⟨p1,p2⟩:=p
    obtain⟨q1,q2,q3⟩:=hp
    simp only at q1 q2 q3
    have hk2:(k:Int)<w.length:=by omega
    have hkw:=hwr _ (List.getElem_mem hk)
    have hset:(p1.set j w[k]).length=3:=by rw[List.length_set,q1]
    have hst2: ∀i,i<j+1→0≤(p1.set j w[k]).getD i 0∧(p1.set j w[k]).getD i 0≤t.chambers-1:=fun i hi=>by
     by_cases e:i=j
     ·subst e
      simp only[List.getD,List.getElem?_set,if_true,show i<p1.length by omega]
      exact hkw
     ·have:=q2 i (by omega)
      simp only[List.getD,List.getElem?_set,show¬j=i by omega,if_false]at this⊢
      exact this
    obtain⟨hi1,hi2⟩:=hI _ hset hst2 p2 q3
    have hkeep:=fromY_keep Y W (j+1) (p1.set j w[k],p2)
    simp only at hkeep
    obtain⟨h64,h80,hgb,hga,hnx,hsc,hput,hD⟩:=fx p1 p2
    have hD':=fun n a=>(fx n a).2.2.2.2.2.2.2
    have h80':=fun n a=>(fx n a).2.1
    have e1: ∀n a,¬D=(X n a).length:=fun n a=>by have:=hD' n a;omega
    have e2: ∀n a,¬db=(X n a).length:=fun n a=>by have:=hD' n a;omega
    have e3: ∀n a,¬dg=(X n a).length:=fun n a=>by have:=hD' n a;omega
    have hput':=hput (p1.set j w[k])
    obtain⟨x0,x1,x2,rfl⟩: ∃x0 x1 x2,p1=[x0,x1,x2]:=by
     match p1,q1 with
     |[x0,x1,x2],_=>exact⟨x0,x1,x2,rfl⟩
    generalize hx:w[k]=x at*
    simp only[sceneL,List.map_cons,List.map_nil]at hnx hput'
    have hI3: ∀q:(List Int×σ)×Bool,fromY Y W (j+1) ([x0,x1,x2].set j x,p2)=q→q.1.1.length=3∧(∀i,i<j→0≤q.1.1.getD i 0∧q.1.1.getD i 0≤t.chambers-1)∧(q.2=true→ok q.1.2):=fun q e=>by
     rw[e]at hkeep hi1
     refine⟨by rw[hkeep.1];exact hset,fun i hi=> ?_,hi1⟩
     rw[hkeep.2 i (by omega)]
     exact hst2 i (by omega)
    generalize fromY Y W (j+1) ([x0,x1,x2].set j x,p2)=q at*
    obtain⟨⟨n',a'⟩,bb⟩:=q
    have hI4:=hI3 _ rfl
    obtain rfl|rfl|rfl:j=0∨j=1∨j=2:=by omega
    ·skip
     simp only[List.set_cons_zero,List.map_cons,List.map_nil]at hi2 hput'
     change∀lab,den _ _ [i64 1,_,_,_,_,_] lab _=_ at hi2
     refine⟨fun hb=>⟨?_,hI4.1,hI4.2.1,hI4.2.2 hb⟩,fun hb=>⟨[],?_⟩⟩<;>simp only at hb<;>subst hb
     ·simp (maxSteps:=1000000) (disch:=first|omega|assumption|decide +kernel|(simp;done)|(simp;omega)|fail) [hk,hk2,hx,hnx,hput',h80',e1,e2,e3,hi2,wk k (by omega),wi]
     ·simp (maxSteps:=1000000) (disch:=first|omega|assumption|decide +kernel|(simp;done)|(simp;omega)|fail) [hk,hk2,hx,hnx,hput',h80',e1,e2,e3,hi2,wk k (by omega),wi]
    ·skip
     simp only[List.set_cons_zero,List.set_cons_succ,List.map_cons,List.map_nil]at hi2 hput'
     change∀lab,den _ _ [i64 2,_,_,_,_,_] lab _=_ at hi2
     refine⟨fun hb=>⟨?_,hI4.1,hI4.2.1,hI4.2.2 hb⟩,fun hb=>⟨[],?_⟩⟩<;>simp only at hb<;>subst hb
     ·simp (maxSteps:=1000000) (disch:=first|omega|assumption|decide +kernel|(simp;done)|(simp;omega)|fail) [hk,hk2,hx,hnx,hput',h80',e1,e2,e3,hi2,wk k (by omega),wi]
     ·simp (maxSteps:=1000000) (disch:=first|omega|assumption|decide +kernel|(simp;done)|(simp;omega)|fail) [hk,hk2,hx,hnx,hput',h80',e1,e2,e3,hi2,wk k (by omega),wi]
    ·skip
     simp only[List.set_cons_zero,List.set_cons_succ,List.map_cons,List.map_nil]at hi2 hput'
     change∀lab,den _ _ [i64 3,_,_,_,_,_] lab _=_ at hi2
     refine⟨fun hb=>⟨?_,hI4.1,hI4.2.1,hI4.2.2 hb⟩,fun hb=>⟨[],?_⟩⟩<;>simp only at hb<;>subst hb
     ·simp (maxSteps:=1000000) (disch:=first|omega|assumption|decide +kernel|(simp;done)|(simp;omega)|fail) [hk,hk2,hx,hnx,hput',h80',e1,e2,e3,hi2,wk k (by omega),wi]
     ·simp (maxSteps:=1000000) (disch:=first|omega|assumption|decide +kernel|(simp;done)|(simp;omega)|fail) [hk,hk2,hx,hnx,hput',h80',e1,e2,e3,hi2,wk k (by omega),wi]
   ·intro p hp
    simp
end Go.Proofs.YtbcjofkfgpbhmaaGreat

/-
  Doors: the moves as a list; the program's moves.
-/
namespace Go.Proofs.YtbcjofkfgpbhmaaGreat
open Go.Ab
theorem foldB_one {α σ:Type}(f:σ→α→σ×Bool)(x:α)(a:σ):foldB f [x] a=f a x:=by
 simp only[foldB]
 split
 ·rename_i h
  rw[←h]
 ·rfl
theorem foldB_map {α β σ:Type}(f:σ→β→σ×Bool)(g:α→β): ∀(l:List α) (a:σ),foldB f (l.map g) a=foldB (fun a x=>f a (g x)) l a
 |[],_=>rfl
 |x::l,a=>by simp only[List.map_cons,foldB,foldB_map f g l]
theorem set_take {n:List Int} {j:Nat} {x:Int}(h:j<n.length):(n.set j x).take (j+1)=n.take j ++[x]:=by
 apply List.ext_getElem?
 intro i
 rw[List.getElem?_take,List.getElem?_set,List.getElem?_append,List.length_take,Nat.min_eq_left (by omega)]
 by_cases h1:i<j
 ·rw[if_pos (by omega),if_neg (by omega),if_pos h1,List.getElem?_take,if_pos h1]
 ·rw[if_neg h1]
  by_cases h2:i=j
  ·subst h2;simp[h]
  ·rw[if_neg (by omega)]
   simp[show i-j≠0 by omega]
theorem set_drop {n:List Int} {j k:Nat} {x:Int}(h:j<k):(n.set j x).drop k=n.drop k:=by
 apply List.ext_getElem?
 intro i
 rw[List.getElem?_drop,List.getElem?_drop,List.getElem?_set,if_neg (by omega)]
theorem foldB_rel {α σ τ:Type} {f:σ→α→σ×Bool} {g:τ→α→τ×Bool}(R:σ→τ→Prop): ∀ {l:List α} {a:σ} {b:τ},(∀a b x,x∈l→R a b→R (f a x).1 (g b x).1∧(f a x).2=(g b x).2)→R a b→R (foldB f l a).1 (foldB g l b).1∧(foldB f l a).2=(foldB g l b).2
 |[],a,b,_,h=>⟨h,rfl⟩
 |x::l,a,b,hs,h=>by
   obtain⟨h1,h2⟩:=hs a b x (by simp) h
   simp only[foldB,h2]
   split
   ·exact foldB_rel R (fun a b y hy=>hs a b y (by simp[hy])) h1
   ·exact⟨h1,h2⟩
theorem fromY_fold {σ:Type}(Y:σ→List Int→σ×Bool): ∀(W:List (List Int)) (j:Nat) (p:List Int×σ),j+W.length≤p.1.length→
 ((fromY Y W j p).1.2=(foldB (fun s m=>Y s (p.1.take j ++m ++p.1.drop (j+W.length))) (movesS W) p.2).1∧(fromY Y W j p).2=(foldB (fun s m=>Y s (p.1.take j ++m ++p.1.drop (j+W.length))) (movesS W) p.2).2)∧
   (fromY Y W j p).1.1.length=p.1.length∧(fromY Y W j p).1.1.take j=p.1.take j∧(fromY Y W j p).1.1.drop (j+W.length)=p.1.drop (j+W.length)
 |[],j,p,h=>by
   simp only[fromY,movesS,foldB_one,List.length_nil,Nat.add_zero,List.append_nil,List.take_append_drop,and_self]
 |w::W,j,p,h=>by
   simp only[List.length_cons]at h
   simp only[fromY,movesS,List.length_cons]
   rw[foldB_flatMap]
   have key:=foldB_rel (f:=fun p x=>fromY Y W (j+1) (p.1.set j x,p.2)) (g:=fun a x=>foldB (fun s m=>Y s (p.1.take j ++m ++p.1.drop (j+(W.length+1)))) ((movesS W).map (x:: ·)) a)
    (fun(q:List Int×σ) (s:σ)=>q.2=s∧q.1.length=p.1.length∧q.1.take j=p.1.take j∧q.1.drop (j+(W.length+1))=p.1.drop (j+(W.length+1))) (l:=w) (a:=p) (b:=p.2) (fun q s x hx hq=> ?_) ⟨rfl,rfl,rfl,rfl⟩
   ·obtain⟨⟨k1,k2,k3,k4⟩,k5⟩:=key
    exact⟨⟨k1,k5⟩,k2,k3,k4⟩
   ·obtain⟨q1,q2⟩:=q
    obtain⟨rfl,h1,h2,h3⟩:=hq
    simp only at h1 h2 h3
    obtain⟨⟨k1,k2⟩,k3,k4,k5⟩:=fromY_fold Y W (j+1) (q1.set j x,q2) (by simp only[List.length_set];omega)
    simp only at k1 k2 k3 k4 k5
    have e1:(q1.set j x).take (j+1)=p.1.take j ++[x]:=by rw[set_take (by omega),h2]
    have e2:(q1.set j x).drop (j+1+W.length)=p.1.drop (j+(W.length+1)):=by rw[set_drop (by omega),←h3];congr 1;omega
    have e3:(fun(s:σ) (m:List Int)=>Y s ((q1.set j x).take (j+1) ++m ++(q1.set j x).drop (j+1+W.length)))=fun s m=>Y s (p.1.take j ++x::m ++p.1.drop (j+(W.length+1))):=by
     funext s m
     rw[e1,e2]
     simp
    rw[e3]at k1 k2
    rw[foldB_map]
    refine⟨⟨k1,by rw[k3,List.length_set,h1],?_,?_⟩,k2⟩
    ·have:=congrArg (List.take j) k4
     rw[List.take_take,Nat.min_eq_left (by omega),e1,List.take_append_of_le_length (by simp;omega),List.take_take,Nat.min_self]at this
     exact this
    ·rw[e2,show j+1+W.length=j+(W.length+1)by omega]at k5
     exact k5
theorem fromY_all {σ:Type}(Y:σ→List Int→σ×Bool)(W:List (List Int))(n:List Int)(a:σ)(h:W.length≤n.length):
 (fromY Y W 0 (n,a)).1.2=(foldB (fun s m=>Y s (m ++n.drop W.length)) (movesS W) a).1∧(fromY Y W 0 (n,a)).2=(foldB (fun s m=>Y s (m ++n.drop W.length)) (movesS W) a).2∧(fromY Y W 0 (n,a)).1.1.length=n.length:=by
 obtain⟨⟨h1,h2⟩,h3,_⟩:=fromY_fold Y W 0 (n,a) (by simpa using h)
 simp only[List.take_zero,List.nil_append,Nat.zero_add]at h1 h2 h3
 exact⟨h1,h2,h3⟩
set_option maxHeartbeats 4000000 in
theorem e_moves(T1:Int)(o c:Nat)(hT:1≤T1∧T1≤4)(n0 n1 n2:Int)(ho:o<32)(hc:c<32)(d l:Nat)(lab)(loc:Ab.Loc)(s:Stk)(hd:d≤s.length)(k0:loc.get lab=none)(k1:loc.get (lab+1000)=none)(k2:loc.get (lab+2000)=none):
 den T 37 [.ptr d l 0, .agg (sceneL T1 (o:Nat) [n0,n1,n2]),i64 (c:Nat)] lab (loc::s)=
  some (.fn 57 [] [.ptr s.length lab 0, .ptr s.length (lab+1000) 0, .ptr s.length (lab+2000) 0],
   (Loc.put (Loc.put (Loc.put loc lab (.cell [.ptr d l 0])) (lab+1000) (.cell (sceneL (T1-1) (xorN o c:Nat) [n0,n1,n2]))) (lab+2000) (.cell (sceneL T1 (o:Nat) [n0,n1,n2])))::s):=by
 have hx:=bxor (a:=o) (b:=c) (by omega) (by omega)
 rw[den_fn t37 _ _ _ rfl]
 simp only[b37]
 simp only[sceneL,List.map_cons,List.map_nil]
 simp (maxSteps:=1000000) (disch:=first|omega|assumption|decide +kernel|(simp;done)|(simp;omega)|fail) [hx,wi,k0,k1,k2,newLab,idxOf,dedup,-bin_xor,show¬d=s.length+1 by omega]
end Go.Proofs.YtbcjofkfgpbhmaaGreat

/-
  Doors: a loop over the moves.
-/
namespace Go.Proofs.YtbcjofkfgpbhmaaGreat
open Go.Ab
abbrev movesO(t:DTrap)(o:Nat)(n:List Int):List (List Int):=movesS ((n.take t.groups.length).map (waysS t.chambers.toNat (openG o t.gates)))
abbrev foldD {σ:Type}(t:DTrap)(o:Nat)(n:List Int)(Y:σ→List Int→σ×Bool)(a:σ):σ×Bool:=foldB (fun s m=>Y s (m ++n.drop t.groups.length)) (movesO t o n) a
set_option maxHeartbeats 4000000 in
theorem e_loopD(t:DTrap)(h:DoorOk t) {C:List Int} {m:V} {σ:Type} {d l db lb dg lg D:Nat} {T' o' T1:Int} {o:Nat}(ho:o<32) {n0:List Int}(hn0:InN t n0)
 {St:List Int→σ→Stk} {Y:σ→List Int→σ×Bool} {ok:σ→Prop} (y:YieldD t C m σ d l db lb dg lg D T' o' T1 (o:Nat) n0 St Y ok) (a:σ) (ha:ok a):
 ∃n',n'.length=3∧ ∀lab,den T 57 [.yld d l, .ptr db lb 0, .ptr db (lb+1000) 0, .ptr db (lb+2000) 0] lab (St n0 a)=some (.tup [],St n' (foldD t o n0 Y a).1):=by
 have hW:((n0.take t.groups.length).map (waysS t.chambers.toNat (openG o t.gates))).length=t.groups.length:=by have:=h.ol;have:=hn0.1;simp;omega
 have hf:=fun lab=>(e_fromD t h.ch.2 h.gl h.ol h.gates ho hn0 y ((n0.take t.groups.length).map (waysS t.chambers.toNat (openG o t.gates))) 0 (by rw[hW];omega) (by simp) n0 hn0.1 (fun i hi=>absurd hi (by omega)) [] a ha).2 lab
 obtain⟨f1,f2,f3⟩:=fromY_all Y ((n0.take t.groups.length).map (waysS t.chambers.toNat (openG o t.gates))) n0 a (by rw[hW];have:=h.ol;have:=hn0.1;omega)
 rw[hW]at f1
 refine⟨(fromY Y ((n0.take t.groups.length).map (waysS t.chambers.toNat (openG o t.gates))) 0 (n0,a)).1.1,by rw[f3,hn0.1],fun lab=> ?_⟩
 rw[f1]at hf
 have hl:=y.len n0 a
 have h1:=y.ltd
 have h2:=y.ltb
 simp only[foldD]
 generalize fromY Y _ 0 (n0,a)=q at*
 generalize foldB _ _ a=r at*
 generalize St q.1.1 r.1=X' at*
 generalize St n0 a=X at*
 subst hl
 simp only[List.nil_append,movesFrame]at hf
 change∀lab,den _ _ [i64 0,_,_,_,_,_] lab _=_ at hf
 have e1: ¬d=X.length:=by omega
 have e2: ¬db=X.length:=by omega
 rw[den_fn t57 _ _ _ rfl]
 simp only[b57]
 simp (maxSteps:=1000000) (disch:=first|omega|assumption|decide +kernel|(simp;done)|(simp;omega)|fail) [e1,e2,hf]
end Go.Proofs.YtbcjofkfgpbhmaaGreat

/-
  Doors: what is remembered; after.
-/
namespace Go.Proofs.YtbcjofkfgpbhmaaGreat
open Go.Ab
theorem kvGet_put(k:List Int)(v:Int): ∀(kvs:List (List Int×Int)) (k2:List Int),kvGet (kvPut kvs k v) k2=if k2=k then some v else kvGet kvs k2
 |[],k2=>by simp[kvPut,kvGet]
 |x::r,k2=>by
   simp only[kvPut]
   by_cases h:k=x.1
   ·subst h
    rw[if_pos rfl]
    simp only[kvGet]
    split<;>rfl
   ·rw[if_neg h]
    simp only[kvGet]
    rw[kvGet_put k v r k2]
    by_cases h2:k2=x.1
    ·rw[if_pos h2,if_pos h2,if_neg (fun e=>h (e.symm.trans h2))]
    ·rw[if_neg h2,if_neg h2]
def Right(W:List Int→Int)(K:List (List Int×Int)):Prop:= ∀k v,kvGet K k=some v→v=W k
abbrev Mem(W:List Int→Int):= {K:List (List Int×Int)//Right W K}
def Mem.nil {W:List Int→Int}:Mem W:=⟨[],fun _ _ h=>by cases h⟩
def Mem.put {W:List Int→Int}(K:Mem W)(k:List Int):Mem W:=⟨kvPut K.1 k (W k),fun k2 v h=>by
 rw[kvGet_put]at h
 split at h
 ·rename_i e;cases h;rw[e]
 ·exact K.2 _ _ h⟩
structure GameD(t:DTrap)(C:List Int)(m:V)(dg lg dm lm L:Nat)(S:List (List Int×Int)→Stk):Prop where
 len: ∀K,(S K).length=L
 ltg:dg<L
 ltm:dm<L
 game: ∀K,sget (S K) dg lg=some (.cell (gameV t C m))
 mem: ∀K,sget (S K) dm lm=some (.mp (some 5) K)
 put: ∀K K',sput (S K) dm lm (.mp (some 5) K')=S K'
theorem GameD.push {t C m dg lg dm lm L S}(G:GameD t C m dg lg dm lm L S)(X:Stk):GameD t C m dg lg dm lm (X.length+L) (fun K=>X ++S K) where
 len:=fun K=>by rw[List.length_append,G.len]
 ltg:=by have:=G.ltg;omega
 ltm:=by have:=G.ltm;omega
 game:=fun K=>by rw[sget_append _ _ _ _ (by rw[G.len];exact G.ltg),G.game]
 mem:=fun K=>by rw[sget_append _ _ _ _ (by rw[G.len];exact G.ltm),G.mem]
 put:=fun K K'=>by rw[sput_append _ _ _ _ _ (by rw[G.len];exact G.ltm),G.put]
def wO(t:DTrap)(k o:Nat)(n:List Int):Int:=worthS t.chambers.toNat t.hands.toNat (fishL t) k (openG o t.gates) (n.take t.groups.length)
def lO(t:DTrap)(k o:Nat)(n:List Int):Int:=leastS t.chambers.toNat t.hands.toNat (fishL t) k (openG o t.gates) (n.take t.groups.length)
def wKey(t:DTrap):List Int→Int
 |[k,o,a,b,c]=>wO t k.toNat o.toNat [a,b,c]
 |_=>0
abbrev MemW(t:DTrap):=Mem (wKey t)
theorem wO_range {t:DTrap}(h:DoorOk t)(k o n):0≤wO t k o n∧wO t k o n≤297:=by
 have hf: ∀f∈fishL t,0≤f∧f≤99:=fun f hf=>by
  obtain⟨g,hg,rfl⟩:=List.mem_map.1 hf
  exact(h.groups g hg).2
 have h1:=worthS_nonneg (n:=t.chambers.toNat) (h:=t.hands.toNat) (fun f hx=>(hf f hx).1) k (openG o t.gates) (n.take t.groups.length)
 have h2:=worthS_le (n:=t.chambers.toNat) (h:=t.hands.toNat) (fun f hx=>(hf f hx).1) k (openG o t.gates) (n.take t.groups.length)
 have key: ∀l:List Int,(∀f∈l,0≤f∧f≤99)→sumF l≤99*l.length:=by
  intro l
  induction l with
  |nil=>intro _;simp[sumF]
  |cons x r ih=>
    intro hh
    have:=ih fun f hf=>hh f (by simp[hf])
    have:=hh x (by simp)
    simp only[sumF,List.foldr_cons,List.length_cons]at*
    omega
 have h3:=key _ hf
 have h4:(fishL t).length≤3:=by simpa [fishL]using h.ol
 unfold wO
 omega
def ValD(t:DTrap)(C:List Int)(k:Nat)(f:Nat→List Int→MemW t→MemW t):Prop:= ∀ {m:V} {dg lg dm lm L:Nat} {S:List (List Int×Int)→Stk},GameD t C m dg lg dm lm L S→gmp m= .mp (.ptr dm lm 0)→
 ∀(o:Nat) (n:List Int) (K:MemW t) (lab:Nat),o<32→InN t n→den T 22 [.ptr dg lg 0, .agg (sceneL (k:Nat) (o:Nat) n)] lab (S K.1)=some (i64 (wO t k o n),S (f o n K).1)
def minY(a x:Int):Int:=if a<0∨x<a then x else a
def aftY(t:DTrap)(k o:Nat)(f:Nat→List Int→MemW t→MemW t)(p:Int×MemW t)(m:List Int):Int×MemW t:=(minY p.1 (wO t k o m),f o m p.2)
def aftF(dg lg L:Nat)(T1:Int)(o o2:Nat)(n0 n:List Int)(x:LoopState)(least:Int):Ab.Loc:=
 [(48, .cell [.ptr dg lg 0]),(64, .cell (sceneL T1 (o:Nat) n0)),(112, .cell [i64 least]),(208, .cell [.ptr dg lg 0]),(1208, .cell (sceneL (T1-1) (o2:Nat) n)),(2208, .cell (sceneL T1 (o:Nat) n0)),
  (8711, .loop [14] b34l0 b34l1 [(3, .ptr L 48 0),(7, .ptr L 112 0),(13, .fn 57 [] [.ptr L 208 0, .ptr L 1208 0, .ptr L 2208 0])] x none)]
set_option maxHeartbeats 4000000 in
theorem after_yield(t:DTrap)(h:DoorOk t)(C:List Int)(k:Nat)(f)(hf:ValD t C k f) {m:V} {dg lg dm lm L:Nat} {S:List (List Int×Int)→Stk}(G:GameD t C m dg lg dm lm L S)(hm:gmp m= .mp (.ptr dm lm 0))
 (T1:Int) (hk:T1-1=(k:Nat)) (o o2:Nat) (ho2:o2<32) (n0:List Int):
 YieldD t C m (Int×MemW t) L 8711 L 208 dg lg (L+1) T1 (o:Nat) (T1-1) (o2:Nat) n0 (fun n a=>aftF dg lg L T1 o o2 n0 n .ready a.1::S a.2.1) (fun a m=>(aftY t k o2 f a m,true)) (fun _=>True) where
 len:=fun n a=>by simp[G.len]
 ltd:=by omega
 ltb:=by omega
 ltg:=by have:=G.ltg;omega
 gbox:=fun n a=>by rw[←G.len a.2.1,sget_top];rfl
 game:=fun n a=>by rw[sget_cons,if_neg (by rw[G.len];have:=G.ltg;omega),G.game]
 next:=fun n a=>by rw[←G.len a.2.1,sget_top];rfl
 scene:=fun n a=>by rw[←G.len a.2.1,sget_top];rfl
 put:=fun n n' a=>by
  have e:=G.len a.2.1
  rw[show sput (aftF dg lg L T1 o o2 n0 n .ready a.1::S a.2.1) L (208+1000) (.cell (sceneL (T1-1) (o2:Nat) n'))=sput (aftF dg lg L T1 o o2 n0 n .ready a.1::S a.2.1) (S a.2.1).length (208+1000) (.cell (sceneL (T1-1) (o2:Nat) n'))by rw[e],sput_top];rfl
 keep:=fun _ _ _ _ _=>trivial
 yield:=fun fr n a lab hn _=>by
  obtain⟨a,K⟩:=a
  have hL:=G.len K.1
  have top: ∀(x:LoopState) a (K:MemW t) l',sget (fr ++aftF dg lg L T1 o o2 n0 n x a::S K.1) L l'=(aftF dg lg L T1 o o2 n0 n x a).get l':=fun x a K l'=>by
   rw[sget_append _ _ _ _ (by simp[G.len]),←G.len K.1,sget_top]
  have put: ∀(x:LoopState) a (K:MemW t) l' en,sput (fr ++aftF dg lg L T1 o o2 n0 n x a::S K.1) L l' en=fr ++(aftF dg lg L T1 o o2 n0 n x a).put l' en::S K.1:=fun x a K l' en=>by
   rw[sput_append _ _ _ _ _ (by simp[G.len])]
   rw[show sput (aftF dg lg L T1 o o2 n0 n x a::S K.1) L l' en=sput (aftF dg lg L T1 o o2 n0 n x a::S K.1) (S K.1).length l' en by rw[G.len],sput_top]
  have hlen: ∀(x:LoopState) a (K:MemW t),L<(fr ++aftF dg lg L T1 o o2 n0 n x a::S K.1).length:=fun x a K=>by simp[G.len];omega
  have hlen2: ∀(x:LoopState) a (K:MemW t),¬L=(fr ++aftF dg lg L T1 o o2 n0 n x a::S K.1).length:=fun x a K=>by have:=hlen x a K;omega
  have hv:=fun lab=>hf (G.push ([(128, .cell (sceneL (T1-1) (o2:Nat) n))]::(fr ++[aftF dg lg L T1 o o2 n0 n .busy a]))) hm o2 n K lab ho2 hn
  rw[←hk]at hv
  simp only[List.cons_append,List.append_assoc,List.nil_append]at hv
  have hw:=wO_range h k o2 n
  obtain⟨x0,x1,x2,rfl⟩: ∃x0 x1 x2,n=[x0,x1,x2]:=by
   match n,hn.1 with
   |[x0,x1,x2],_=>exact⟨x0,x1,x2,rfl⟩
  have B: ∃e,Run T b34l1 [(3, .ptr L 48 0),(7, .ptr L 112 0),(8, .ptr (fr ++aftF dg lg L T1 o o2 n0 [x0,x1,x2] .busy a::S K.1).length 128 0)] ([(128, .cell (sceneL (T1-1) (o2:Nat) [x0,x1,x2]))]::(fr ++aftF dg lg L T1 o o2 n0 [x0,x1,x2] .busy a::S K.1))=
   some (.normal,e,[(128, .cell (sceneL (T1-1) (o2:Nat) [x0,x1,x2]))]::(fr ++aftF dg lg L T1 o o2 n0 [x0,x1,x2] .busy (minY a (wO t k o2 [x0,x1,x2]))::S (f o2 [x0,x1,x2] K).1)):=by
   have g48: ∀K:MemW t,sget (fr ++aftF dg lg L T1 o o2 n0 [x0,x1,x2] .busy a::S K.1) L 48=some (.cell [.ptr dg lg 0]):=fun K=>by rw[top];rfl
   have g112: ∀K:MemW t,sget (fr ++aftF dg lg L T1 o o2 n0 [x0,x1,x2] .busy a::S K.1) L 112=some (.cell [i64 a]):=fun K=>by rw[top];rfl
   have p112: ∀(K:MemW t) v,sput (fr ++aftF dg lg L T1 o o2 n0 [x0,x1,x2] .busy a::S K.1) L 112 (.cell [i64 v])=fr ++aftF dg lg L T1 o o2 n0 [x0,x1,x2] .busy v::S K.1:=fun K v=>by rw[put];rfl
   have hd:=G.ltg
   simp only[b34l1]
   obtain⟨X,hX⟩: ∃X:Int→MemW t→Stk,∀v (K:MemW t),fr ++aftF dg lg L T1 o o2 n0 [x0,x1,x2] .busy v::S K.1=X v K:=⟨_,fun _ _=>rfl⟩
   simp only[hX]at g48 g112 p112 hv⊢
   have hL2: ∀v K,¬L=(X v K).length:=fun v K=>by rw[←hX];exact hlen2 .busy v K
   unfold minY
   generalize wO t k o2 [x0,x1,x2]=w at*
   generalize f o2 [x0,x1,x2] K=K' at*
   simp only[sceneL,List.map_cons,List.map_nil]at hv⊢
   by_cases x0:a<0
   ·refine⟨[(7, .ptr L 112 0)],?_⟩
    simp (maxSteps:=1000000) (disch:=first|omega|assumption|decide +kernel|(simp;done)|(simp;omega)|fail) [g48,g112,p112,hL2,hv,x0]
   ·by_cases x1:w<a
    ·refine⟨[(7, .ptr L 112 0)],?_⟩
     simp (maxSteps:=1000000) (disch:=first|omega|assumption|decide +kernel|(simp;done)|(simp;omega)|fail) [g48,g112,p112,hL2,hv,x0,x1]
    ·refine⟨[(7, .ptr L 112 0),(9,i64 w),(24, .bool false)],?_⟩
     simp (maxSteps:=1000000) (disch:=first|omega|assumption|decide +kernel|(simp;done)|(simp;omega)|fail) [g48,g112,p112,hL2,hv,x0,x1]
  obtain⟨e,hB⟩:=B
  refine(yld_run (ps:=[14]) (A:=b34l0) (B:=b34l1) (env:=[(3, .ptr L 48 0),(7, .ptr L 112 0),(13, .fn 57 [] [.ptr L 208 0, .ptr L 1208 0, .ptr L 2208 0])]) (ex:= .normal) (st:= .busy) (p:=none)
   (s3:=fr ++aftF dg lg L T1 o o2 n0 [x0,x1,x2] .busy (minY a (wO t k o2 [x0,x1,x2]))::S (f o2 [x0,x1,x2] K).1) (by rw[top];rfl) rfl (e1:=[(3, .ptr L 48 0),(7, .ptr L 112 0),(8, .ptr (fr ++aftF dg lg L T1 o o2 n0 [x0,x1,x2] .ready a::S K.1).length 128 0)]) (fr1:=[(128, .cell (sceneL (T1-1) (o2:Nat) [x0,x1,x2]))]) ?_ (hlen _ _ _) (e2:=e) (fr2:=[(128, .cell (sceneL (T1-1) (o2:Nat) [x0,x1,x2]))]) ?_ (by rw[top];rfl)).trans ?_
  ·simp[b34l0,bindEnv]
  ·rw[put]
   rw[show(fr ++aftF dg lg L T1 o o2 n0 [x0,x1,x2] .busy a::S K.1).length=(fr ++aftF dg lg L T1 o o2 n0 [x0,x1,x2] .ready a::S K.1).length by simp]at hB
   exact hB
  ·rw[put];rfl
end Go.Proofs.YtbcjofkfgpbhmaaGreat

/-
  Doors: after.
-/
namespace Go.Proofs.YtbcjofkfgpbhmaaGreat
open Go.Ab
theorem foldB_true {α σ:Type}(f:σ→α→σ): ∀(l:List α) (a:σ),foldB (fun a x=>(f a x,true)) l a=(l.foldl f a,true)
 |[],_=>rfl
 |x::l,a=>by simp only[foldB,if_true,foldB_true f l,List.foldl_cons]
theorem minY_fold: ∀(l:List Int) (a:Int),0≤a→(∀x∈l,0≤x)→l.foldl minY a=minL (a::l)
 |[],a,_,_=>rfl
 |x::r,a,ha,h=>by
   have hx:=h x (by simp)
   rw[List.foldl_cons,minY_fold r _ (by unfold minY;split<;>omega) fun y hy=>h y (by simp[hy])]
   have e:minY a x=min a x:=by unfold minY;split<;>omega
   rw[e,minL_cons,minL_cons,if_neg (List.cons_ne_nil x r),minL_cons]
   split
   ·rfl
   ·omega
theorem minY_all {l:List Int}(hl:l≠[])(h: ∀x∈l,0≤x):l.foldl minY (-1)=minL l:=by
 cases l with
 |nil=>exact absurd rfl hl
 |cons x r=>
   have hx:=h x (by simp)
   rw[List.foldl_cons,show minY (-1) x=x by simp[minY],minY_fold r x hx fun y hy=>h y (by simp[hy])]
def aftK(t:DTrap)(f:Nat→List Int→MemW t→MemW t)(o:Nat)(n:List Int)(K:MemW t):MemW t:=(movesO t o n).foldl (fun K m=>f o (m ++n.drop t.groups.length) K) K
theorem moves_len {t:DTrap}(h:DoorOk t) {o:Nat} {n m:List Int}(hn:InN t n)(hm:m∈movesO t o n):m.length=t.groups.length:=by
 have:=(mem_moves.1 hm).1
 rw[List.length_take,hn.1]at this
 have:=h.ol
 omega
theorem moves_take {t:DTrap}(h:DoorOk t) {o:Nat} {n m:List Int}(hn:InN t n)(hm:m∈movesO t o n):(m ++n.drop t.groups.length).take t.groups.length=m:=by
 have hl:=moves_len h hn hm
 rw[List.take_append_of_le_length (by omega),List.take_of_length_le (by omega)]
theorem fold_pair {α σ τ:Type}(f:σ→α→σ)(g:τ→α→τ): ∀(l:List α) (a:σ) (b:τ),l.foldl (fun(p:σ×τ) x=>(f p.1 x,g p.2 x)) (a,b)=(l.foldl f a,l.foldl g b)
 |[],_,_=>rfl
 |x::l,a,b=>by simp only[List.foldl_cons,fold_pair f g l]
theorem after_fold {t:DTrap}(h:DoorOk t)(k o:Nat)(f:Nat→List Int→MemW t→MemW t) {n:List Int}(hn:InN t n)(K:MemW t):
 foldD t o n (fun a m=>(aftY t k o f a m,true)) (-1,K)=((lO t k o n,aftK t f o n K),true):=by
 unfold foldD
 rw[foldB_true (fun a m=>aftY t k o f a (m ++n.drop t.groups.length))]
 unfold aftY
 rw[fold_pair (fun a m=>minY a (wO t k o (m ++n.drop t.groups.length))) (fun K m=>f o (m ++n.drop t.groups.length) K)]
 congr 2
 rw[←List.foldl_map (f:=fun m=>wO t k o (m ++n.drop t.groups.length)) (g:=minY)]
 have e:(movesO t o n).map (fun m=>wO t k o (m ++n.drop t.groups.length))=(movesO t o n).map (worthS t.chambers.toNat t.hands.toNat (fishL t) k (openG o t.gates)):=by
  apply List.map_congr_left
  intro m hm
  unfold wO
  rw[moves_take h hn hm]
 rw[e,minY_all (by simpa using moves_ne _ _ _)]
 ·rfl
 ·intro x hx
  obtain⟨m,hm,rfl⟩:=List.mem_map.1 hx
  refine worthS_nonneg (fun f hf=> ?_) _ _ _
  obtain⟨g,hg,rfl⟩:=List.mem_map.1 hf
  exact(h.groups g hg).2.1
set_option maxHeartbeats 4000000 in
theorem e_after {t:DTrap}(h:DoorOk t) {C:List Int} {k:Nat}(hk:k<4) {f}(hf:ValD t C k f) {m:V} {dg lg dm lm L:Nat} {S:List (List Int×Int)→Stk}(G:GameD t C m dg lg dm lm L S)(hmm:gmp m= .mp (.ptr dm lm 0))
 (o c:Nat) (ho:o<32) (hc:c<32) {n:List Int} (hn:InN t n) (K:MemW t) (lab):
 den T 34 [.ptr dg lg 0, .agg (sceneL ((k+1:Nat):Int) (o:Nat) n),i64 (c:Nat)] lab (S K.1)=some (i64 (lO t k (xorN o c) n),S (aftK t f (xorN o c) n K).1):=by
 have ho2:xorN o c<32:=Nat.xor_lt_two_pow (n:=5) ho hc
 have hkk:((k+1:Nat):Int)-1=(k:Nat):=by omega
 have y:=after_yield t h C k f hf G hmm ((k+1:Nat):Int) hkk o (xorN o c) ho2 n
 rw[hkk]at y
 obtain⟨n',hn',hl⟩:=e_loopD t h ho2 hn y (-1,K) trivial
 rw[after_fold h k (xorN o c) f hn K]at hl
 generalize lO t k (xorN o c) n=r at*
 generalize aftK t f (xorN o c) n K=K' at*
 have hL:=G.len
 have hd:=G.ltg
 obtain⟨x0,x1,x2,rfl⟩: ∃x0 x1 x2,n=[x0,x1,x2]:=by
  match n,hn.1 with
  |[x0,x1,x2],_=>exact⟨x0,x1,x2,rfl⟩
 have hm:=fun(loc:Ab.Loc) lab=>e_moves ((k+1:Nat):Int) o c (by omega) x0 x1 x2 ho hc dg lg lab loc (S K.1) (by rw[hL];omega)
 rw[hkk]at hm
 simp only[hL]at hm
 simp only[aftF,hkk]at hl
 generalize xorN o c=o2 at*
 have e1: ¬dg=L:=by omega
 simp only[sceneL,List.map_cons,List.map_nil,Nat.reduceAdd]at hl hm⊢
 generalize ((k+1:Nat):Int)=T1 at*
 rw[den_fn t34 _ _ _ rfl]
 simp only[b34]
 simp (maxSteps:=1000000) (disch:=first|omega|assumption|decide +kernel|(simp;done)|(simp;omega)|fail) [run_drawnK,orSlow_none,hL,hm,hl,e1]
end Go.Proofs.YtbcjofkfgpbhmaaGreat

/-
  Doors: value.
-/
namespace Go.Proofs.YtbcjofkfgpbhmaaGreat
open Go.Ab
theorem mem_bitsL {g:Nat} {i:Nat}:(i:Int)∈bitsL g↔i<5∧g.testBit i=true:=by
 simp only[bitsL,List.mem_map,List.mem_filter,List.mem_range]
 constructor
 ·rintro⟨j,h,e⟩
  obtain rfl:j=i:=by omega
  exact h
 ·exact fun h=>⟨i,h,rfl⟩
theorem open_flip {gs:List DGate}(hg:gs.length≤5)(o:Nat) {c:List Int}(hc:c∈allL 5):openG (xorN o (maskL c)) gs=flipG (openG o gs) c:=by
 apply List.ext_getElem?
 intro i
 rw[flipS_get,openS_get,openS_get,Nat.zero_add]
 by_cases hi:i<gs.length
 ·rw[List.getElem?_eq_getElem hi]
  simp only[Option.map_some]
  have hm:=mem_bitsL (g:=maskL c) (i:=i)
  rw[bits_mask c hc]at hm
  have hx:(xorN o (maskL c)).testBit i=((o.testBit i)^^((maskL c).testBit i)):=by unfold xorN;exact Nat.testBit_xor ..
  rw[hx]
  by_cases h:(i:Int)∈c
  ·rw[if_pos h,(hm.1 h).2];cases o.testBit i<;>rfl
  ·rw[if_neg h]
   have:(maskL c).testBit i=false:=by
    cases e:(maskL c).testBit i
    ·rfl
    ·exact absurd (hm.2 ⟨by omega,e⟩) h
   rw[this];cases o.testBit i<;>rfl
 ·rw[List.getElem?_eq_none (by omega)];rfl
abbrev cN(t:DTrap):List Nat:=changesB t.hands.toNat t.gates.length
theorem cN_lt {t:DTrap}(h:DoorOk t) {c:Nat}(hc:c∈cN t):c<32:=by
 obtain⟨l,hl,rfl⟩:=List.mem_map.1 hc
 exact mask_lt 5 (by decide) l (choices_up (by have:=h.gl;omega) hl)
theorem maxL_fold: ∀(l:List Int) (a:Int),0≤a→l.foldl max a=max a (maxL l)
 |[],a,h=>by simp[maxL];omega
 |x::r,a,h=>by
   rw[List.foldl_cons,maxL_fold r _ (by omega)]
   simp only[maxL];omega
theorem wO_succ {t:DTrap}(h:DoorOk t)(k o:Nat)(n:List Int):wO t (k+1) o n=((cN t).map fun c=>lO t k (xorN o c) n).foldl max 0:=by
 rw[maxL_fold _ _ (by omega),Int.max_eq_right (maxL_nonneg _)]
 unfold wO
 rw[worthS_succ,openS_length]
 simp only[cN,changesB,List.map_map]
 congr 1
 apply List.map_congr_left
 intro c hc
 simp only[Function.comp]
 unfold lO
 rw[open_flip h.gl o (choices_up (by have:=h.gl;omega) hc)]
theorem lO_range {t:DTrap}(h:DoorOk t)(k o n):0≤lO t k o n∧lO t k o n≤297:=by
 obtain⟨m,_,e⟩:=leastS_mem t.chambers.toNat t.hands.toNat (fishL t) k (openG o t.gates) (n.take t.groups.length)
 have hw:=wO_range h k o (m.take t.groups.length ++List.replicate (t.groups.length-m.length) 0)
 have hf: ∀f∈fishL t,0≤f:=fun f hf=>by
  obtain⟨g,hg,rfl⟩:=List.mem_map.1 hf
  exact(h.groups g hg).2.1
 have h1:=worthS_nonneg (n:=t.chambers.toNat) (h:=t.hands.toNat) hf k (openG o t.gates) m
 have h2:=worthS_le (n:=t.chambers.toNat) (h:=t.hands.toNat) hf k (openG o t.gates) m
 have h3:=wO_range h 0 0 []
 unfold lO
 rw[e]
 refine⟨h1,Int.le_trans h2 ?_⟩
 have key: ∀l:List Int,(∀f∈l,0≤f∧f≤99)→sumF l≤99*l.length:=by
  intro l
  induction l with
  |nil=>intro _;simp[sumF]
  |cons x r ih=>
    intro hh
    have:=ih fun f hf=>hh f (by simp[hf])
    have:=hh x (by simp)
    simp only[sumF,List.foldr_cons,List.length_cons]at*
    omega
 have h5:=key (fishL t) fun f hf=>by
  obtain⟨g,hg,rfl⟩:=List.mem_map.1 hf
  exact(h.groups g hg).2
 have h4:(fishL t).length≤3:=by simpa [fishL]using h.ol
 omega
abbrev keyD(k o:Nat)(n:List Int):List Int:=(k:Int)::(o:Int)::n
theorem wKey_key(t:DTrap)(k o:Nat) {n:List Int}(hn:n.length=3):wKey t (keyD k o n)=wO t k o n:=by
 match n,hn with
 |[a,b,c],_=>simp[keyD,wKey]
def valK(t:DTrap):Nat→Nat→List Int→MemW t→MemW t
 |0,_,_,K=>K
 |k+1,o,n,K=>if (kvGet K.1 (keyD (k+1) o n)).isSome then K else((cN t).foldl (fun K c=>aftK t (valK t k) (xorN o c) n K) K).put (keyD (k+1) o n)
set_option maxHeartbeats 8000000 in
theorem e_value {t:DTrap}(h:DoorOk t)(k:Nat):k≤4→ValD t (chB t) k (valK t k):=by
 induction k with
 |zero=>
   intro _ m dg lg dm lm L S G hmm o n K lab ho hn
   obtain⟨x0,x1,x2,rfl⟩: ∃x0 x1 x2,n=[x0,x1,x2]:=by
    match n,hn.1 with
    |[x0,x1,x2],_=>exact⟨x0,x1,x2,rfl⟩
   have hL:=G.len K.1
   have hd:=G.ltg
   have hc:=fun lab=>e_caught t h.ol h.ch (fun g hg=>(h.groups g hg).2) (chB t) m x0 x1 x2 dg lg ([(48, .cell [i64 0,i64 (o:Nat),i64 x0,i64 x1,i64 x2])]::S K.1) (by simp only[List.length_cons];omega) (by rw[sget_cons,if_neg (by omega),G.game]) lab
   have e:caughtS t.chambers.toNat (fishL t) [x0,x1,x2]=wO t 0 o [x0,x1,x2]:=by
    unfold wO
    simp only[worthS]
    have: ∀(f p:List Int) (k:Nat),f.length≤k→caughtS t.chambers.toNat f (p.take k)=caughtS t.chambers.toNat f p:=by
     intro f
     induction f with
     |nil=>intro p k _;simp[caughtS]
     |cons x f ih=>
       intro p k hk
       cases p with
       |nil=>simp
       |cons y p=>
         cases k with
         |zero=>simp at hk
         |succ k=>simp only[List.take_succ_cons,caughtS,ih p k (by simpa using hk)]
    exact(this _ _ _ (by simp[fishL])).symm
   rw[e]at hc
   simp only[valK]
   generalize wO t 0 o [x0,x1,x2]=w at*
   generalize S K.1=X at*
   subst hL
   simp only[sceneL,List.map_cons,List.map_nil,Int.natCast_zero]
   change den T _ [_, .agg [i64 0,_,_,_,_]] _ _=_
   rw[den_fn t22 _ _ _ rfl]
   simp only[b22]
   simp (maxSteps:=1000000) (disch:=first|omega|assumption|decide +kernel|(simp;done)|(simp;omega)|fail) [hc]
 |succ k ih0=>
   intro hk m dg lg dm lm L S G hmm o n K lab ho hn
   have ih:= @ih0 (by omega)
   obtain⟨x0,x1,x2,rfl⟩: ∃x0 x1 x2,n=[x0,x1,x2]:=by
    match n,hn.1 with
    |[x0,x1,x2],_=>exact⟨x0,x1,x2,rfl⟩
   have hL:=G.len
   have hd:=G.ltg
   have hd2:=G.ltm
   have e1: ¬dg=L:=by omega
   have e2: ¬dm=L:=by omega
   have hga:=G.game
   have hme:=G.mem
   have hpu:=G.put
   have hw:=wKey_key t (k+1) o (n:=[x0,x1,x2]) rfl
   have haf:=fun(c:Nat) (hc:c<32) (K:MemW t) lab=>e_after h (by omega:k<4) @ih (G.push [[(48, .cell [i64 ((k+1:Nat):Int),i64 (o:Nat),i64 x0,i64 x1,i64 x2])]]) hmm o c ho hc hn K lab
   have hsc:=wO_succ h k o [x0,x1,x2]
   have hlr:=fun c=>lO_range h k (xorN o c) [x0,x1,x2]
   have hT:(((k+1:Nat):Int)=0)=False:=by simp;omega
   simp only[sceneL,List.map_cons,List.map_nil,List.cons_append,List.nil_append]at haf⊢
   simp only[valK]
   have key:=loop_fold (T:=Go.Proofs.YtbcjofkfgpbhmaaGreat.T) (live:=[0,3,7,31,32,33]) (keep:=[48,256]) (b:=d22l0) (cN t) (fun _ (a:Int×MemW t)=>0≤a.1∧a.1≤297) (fun a c=>(max a.1 (lO t k (xorN o c) [x0,x1,x2]),aftK t (valK t k) (xorN o c) [x0,x1,x2] a.2))
    (fun j a=>[(0, .ptr dg lg 0),(3, .ptr L 48 0),(7,i64 a.1),(31, .sl .no 1 (es cInt (chB t))),(32,i64 (cN t).length),(33,i64 (j:Nat))]) (fun _ a=>[(48, .cell [i64 ((k+1:Nat):Int),i64 (o:Nat),i64 x0,i64 x1,i64 x2])]::S a.2.1)
    (fun a=>(.exit 0,[(0, .ptr dg lg 0),(3, .ptr L 48 0),(7,i64 a.1),(31, .sl .no 1 (es cInt (chB t))),(32,i64 (cN t).length),(33,i64 (cN t).length),(34, .bool false)],[(48, .cell [i64 ((k+1:Nat):Int),i64 (o:Nat),i64 x0,i64 x1,i64 x2])]::S a.2.1))
    (by simp) ?_ ?_ ?_ (0,K) (by simp) [(0, .ptr dg lg 0),(3, .ptr L 48 0),(7,i64 0),(31, .sl .no 1 (es cInt (chB t))),(32,i64 (cN t).length),(33,i64 0)] ([(48, .cell [i64 ((k+1:Nat):Int),i64 (o:Nat),i64 x0,i64 x1,i64 x2])]::S K.1) (by simp[hL,e1]) (by simp[hL])
   ·change Run Go.Proofs.YtbcjofkfgpbhmaaGreat.T b22l0 _ _=_ at key
    rw[fold_pair (fun a c=>max a (lO t k (xorN o c) [x0,x1,x2])) (fun K c=>aftK t (valK t k) (xorN o c) [x0,x1,x2] K),←List.foldl_map (f:=fun c=>lO t k (xorN o c) [x0,x1,x2]) (g:=max),←hsc]at key
    have hcl:(chB t).length=(cN t).length:=by simp[chB,natI]
    have hr: ∀v,kvGet K.1 (keyD (k+1) o [x0,x1,x2])=some v→v=wO t (k+1) o [x0,x1,x2]:=fun v hv=>by rw[←hw];exact K.2 _ _ hv
    simp only[keyD]at hr hw⊢
    generalize wO t (k+1) o [x0,x1,x2]=w at*
    generalize List.foldl _ K (cN t)=K' at*
    generalize hTT:((k+1:Nat):Int)=T1 at*
    generalize chB t=C at*
    generalize (cN t).length=N at*
    cases hv:kvGet K.1 [T1,(o:Nat),x0,x1,x2]with
    |some v=>
      obtain rfl:=hr v hv
      rw[den_fn t22 _ _ _ rfl]
      simp only[b22]
      simp (maxSteps:=1000000) (disch:=first|omega|assumption|decide +kernel|(simp;done)|(simp;omega)|fail) [run_drawnK,orSlow_none,hmm,hL,hga,hme,hpu,e1,e2,hT,hv]
    |none=>
      rw[den_fn t22 _ _ _ rfl]
      simp only[b22]
      simp (maxSteps:=1000000) (disch:=first|omega|assumption|decide +kernel|(simp;done)|(simp;omega)|fail) [run_drawnK,orSlow_none,hmm,hL,hga,hme,hpu,e1,e2,hT,hv,hcl,key,Mem.put,hw]
   ·intro j a hj hi
    obtain⟨a,K2⟩:=a
    have hj2:(j:Int)<(cN t).length:=by omega
    have hcl:(chB t).length=(cN t).length:=by simp[chB,natI]
    have hj3:j<(chB t).length:=by omega
    have hcj:(chB t)[j]=((cN t)[j]:Int):=by simp[chB,natI]
    have hc:=cN_lt h (List.getElem_mem hj)
    have hlen:(cN t).length≤32:=by rw[←hcl];exact(chB_len h).2.2
    have ha:=haf _ hc K2
    have hr:=hlr (cN t)[j]
    generalize (cN t)[j]=c at*
    simp only at hi⊢
    generalize lO t k (xorN o c) [x0,x1,x2]=w at*
    generalize aftK t (valK t k) (xorN o c) [x0,x1,x2] K2=K' at*
    generalize hTT:((k+1:Nat):Int)=T1 at*
    generalize chB t=C at*
    simp (maxSteps:=1000000) (disch:=first|omega|assumption|decide +kernel|(simp;done)|(simp;omega)|fail) [hj,hj2,hj3,hcj,hL,hga,e1,ha,wk j (by omega)]
   ·intro j a hj hi
    have:=hlr (cN t)[j]
    simp only
    omega
   ·intro a hi
    simp
end Go.Proofs.YtbcjofkfgpbhmaaGreat

/-
  Doors: Worth, Plan, Turns.
-/
namespace Go.Proofs.YtbcjofkfgpbhmaaGreat
open Go.Ab
theorem GameD.top {t C} {s:Stk} {lg lm:Nat} {X:List (List Int×Int)→Ab.Loc}(hg: ∀K,(X K).get lg=some (.cell (gameV t C (.mp (.ptr s.length lm 0)))))(hm: ∀K,(X K).get lm=some (.mp (some 5) K))(hp: ∀K K',(X K).put lm (.mp (some 5) K')=X K'):
 GameD t C (.mp (.ptr s.length lm 0)) s.length lg s.length lm (s.length+1) (fun K=>X K::s) where
 len:=fun K=>by simp
 ltg:=by omega
 ltm:=by omega
 game:=fun K=>by rw[sget_top,hg]
 mem:=fun K=>by rw[sget_top,hm]
 put:=fun K K'=>by rw[sput_top,hp]
def nAt(t:DTrap):List Int:=[at0 t 0,at0 t 1,at0 t 2]
def worthT(t:DTrap)(k:Nat):Int:=worthS t.chambers.toNat t.hands.toNat (fishL t) k t.gates (posL t)
def leastT(t:DTrap)(k:Nat)(c:List Int):Int:=leastS t.chambers.toNat t.hands.toNat (fishL t) k (flipG t.gates c) (posL t)
abbrev gN(t:DTrap):Nat:=gateBits t.gates
theorem at0_get {t:DTrap} {i:Nat}(hi:i<t.groups.length):at0 t i=t.groups[i].pos:=by simp[at0,pk,hi]
theorem nAt_in {t:DTrap}(h:DoorOk t):InN t (nAt t):=by
 refine⟨rfl,fun i hi=> ?_⟩
 have h3:=h.ol
 have:(nAt t).getD i 0=at0 t i:=by
  obtain rfl|rfl|rfl:i=0∨i=1∨i=2:=by omega
  all_goals rfl
 rw[this,at0_get hi]
 exact(h.groups _ (List.getElem_mem hi)).1
theorem nAt_take {t:DTrap}(h:DoorOk t):(nAt t).take t.groups.length=posL t:=by
 have h3:=h.ol
 apply List.ext_getElem?
 intro i
 rw[List.getElem?_take]
 split
 ·rename_i hi
  have:(nAt t)[i]? =some (at0 t i):=by
   obtain rfl|rfl|rfl:i=0∨i=1∨i=2:=by omega
   all_goals rfl
  rw[this,at0_get hi]
  simp[posL,hi]
 ·rename_i hi
  simp only[posL,List.getElem?_map,List.getElem?_eq_none (show t.groups.length≤i by omega)];rfl
theorem gN_lt {t:DTrap}(h:DoorOk t):gN t<32:=gateBits_lt h.gl
theorem wO_start {t:DTrap}(h:DoorOk t)(k:Nat):wO t k (gN t) (nAt t)=worthT t k:=by
 unfold wO worthT
 rw[nAt_take h,openG_bits]
theorem lO_start {t:DTrap}(h:DoorOk t)(k:Nat) {c:List Int}(hc:c∈allL 5):lO t k (xorN (gN t) (maskL c)) (nAt t)=leastT t k c:=by
 unfold lO leastT
 rw[nAt_take h,open_flip h.gl _ hc,openG_bits]
theorem start_cells(t:DTrap):sceneV t.turns (gN t:Nat) (at0 t 0) (at0 t 1) (at0 t 2)=sceneL t.turns (gN t:Nat) (nAt t):=rfl
def worthR(t:DTrap):Int×Int:=if doorB t=true then(worthT t t.turns.toNat,0)else(0,30)
set_option maxHeartbeats 8000000 in
theorem e_Worth(t:DTrap)(hs:ShortD t)(lab s):den T 15 [.agg (dV t)] lab s=some (.tup [i64 (worthR t).1,i64 (worthR t).2],s):=by
 unfold worthR
 cases h:doorB t
 ·have hb:=fun lab loc s=>e_begin_bad t hs h true lab loc s
  rw[den_fn t15 _ _ _ rfl]
  simp only[b15]
  simp (maxSteps:=1000000) (disch:=first|omega|assumption|decide +kernel|(simp;done)|(simp;omega)|fail) [hb]
 ·have ho:=doorB_iff.1 h
  have hb:=fun lab loc k0 k1=>e_begin t ho lab loc s k0 k1
  have hT:((t.turns.toNat:Nat):Int)=t.turns:=by have:=ho.tu;omega
  have hv:=fun lab=>e_value ho t.turns.toNat (by have:=ho.tu;omega) (GameD.top (s:=s) (lg:=144) (lm:=1144) (X:=fun K=>[(16, .cell (dV t)),(144, .cell (gameV t (chB t) (.mp (.ptr s.length 1144 0)))),(1144, .mp (some 5) K),(80, .cell (scene0 t))]) (fun K=>rfl) (fun K=>rfl) (fun K K'=>rfl)) rfl (gN t) (nAt t) Mem.nil lab (gN_lt ho) (nAt_in ho)
  rw[wO_start ho,hT,←start_cells]at hv
  simp only[scene0]at hb hv
  generalize worthT t _=w at*
  generalize valK t _ _ _ _=K' at*
  generalize chB t=C at*
  change∀lab,den T _ _ lab ([(16,_),(144,_),(1144, .mp (some 5) []),(80,_)]::s)=_ at hv
  rw[den_fn t15 _ _ _ rfl]
  simp only[b15]
  simp (maxSteps:=1000000) (disch:=first|omega|assumption|decide +kernel|(simp;done)|(simp;omega)|fail) [hb,hv]
end Go.Proofs.YtbcjofkfgpbhmaaGreat

/-
  Regions in each order that they may have, by an invariant.
-/
namespace Go.Proofs.YtbcjofkfgpbhmaaGreat
open Go.Ab
theorem run_each2(A B live e s)(h:bruteOps (spl A B)=true):Run T (.region true (spl A B) live) e s=eachK (runAny T (Run T) (A ++B) live (A ++B) [] e s):=run_each A B live e s h
theorem mem_ready: ∀(ops:List AOper) (k:Nat) (done:List Nat) (i:Nat),i∈readyFrom k ops done↔ ∃j o,ops[j]? =some o∧i=k+j∧i∉done∧ ∀p∈o.pre,p∈done
 |[],k,done,i=>by simp[readyFrom]
 |o::r,k,done,i=>by
   have ih:=mem_ready r (k+1) done i
   have hs:(∃j o',(o::r)[j]? =some o'∧i=k+j∧i∉done∧ ∀p∈o'.pre,p∈done)↔(i=k∧i∉done∧ ∀p∈o.pre,p∈done)∨ ∃j o',r[j]? =some o'∧i=k+1+j∧i∉done∧ ∀p∈o'.pre,p∈done:=by
    constructor
    ·rintro⟨j,o',h1,h2,h3⟩
     cases j with
     |zero=>simp at h1;subst h1;exact .inl ⟨by omega,h3⟩
     |succ j=>exact .inr ⟨j,o',by simpa using h1,by omega,h3⟩
    ·rintro(⟨h1,h2⟩|⟨j,o',h1,h2,h3⟩)
     ·exact⟨0,o,rfl,by omega,h2⟩
     ·exact⟨j+1,o',by simpa using h1,by omega,h3⟩
   rw[hs]
   simp only[readyFrom]
   split
   ·rename_i hc
    rw[ih]
    constructor
    ·exact .inr
    ·rintro(⟨h1,h2,h3⟩|h)
     ·subst h1
      simp only[Bool.or_eq_true,List.contains_iff_mem,Bool.not_eq_true',List.all_eq_false]at hc
      rcases hc with hc|⟨p,hp,hn⟩
      ·exact absurd hc h2
      ·exact absurd (by simpa using h3 p hp) hn
     ·exact h
   ·rename_i hc
    simp only[Bool.or_eq_true,List.contains_iff_mem,Bool.not_eq_true',List.all_eq_false,not_or,not_exists,not_and,Decidable.not_not]at hc
    rw[List.mem_cons,ih]
    constructor
    ·rintro(h|h)
     ·subst h;exact .inl ⟨rfl,hc.1,fun p hp=>by simpa using hc.2 p hp⟩
     ·exact .inr h
    ·rintro(⟨h1,_⟩|h)
     ·exact .inl h1
     ·exact .inr h
theorem agree_all {α:Type} {l:List (Option α)} {x:Option α}(hne:l≠[])(h: ∀y∈l,y=x):agree l=x:=by
 cases l with
 |nil=>exact absurd rfl hne
 |cons a r=>
   have ha:=h a (by simp)
   subst ha
   simp only[agree]
   rw[if_pos fun y hy=>h y (by simp[hy])]
def undone(n:Nat)(done:List Nat):Nat:=((List.range n).filter fun i=> !done.contains i).length
theorem undone_step {n i:Nat} {done:List Nat}(hi:i<n)(hd:i∉done):undone n (i::done)<undone n done:=by
 unfold undone
 have e:(List.range n).filter (fun j=> !(i::done).contains j)=((List.range n).filter fun j=> !done.contains j).filter fun j=>decide (j≠i):=by
  rw[List.filter_filter]
  apply List.filter_congr
  intro j _
  rw[Bool.eq_iff_iff]
  simp[List.mem_cons,not_or]
 rw[e]
 have hm:i∈(List.range n).filter fun j=> !done.contains j:=by simp[hi,hd]
 generalize (List.range n).filter (fun j=> !done.contains j)=l at hm
 induction l with
 |nil=>cases hm
 |cons x r ih=>
   rw[List.filter_cons]
   split
   ·rename_i hx
    rcases List.mem_cons.1 hm with rfl|hm
    ·simp at hx
    ·simpa using ih hm
   ·have:=List.length_filter_le (fun j=>decide (j≠i)) r
    simp only[List.length_cons];omega
theorem runAny_inv {ops:List AOper} {live:List Nat}(Inv:List Nat→Env→Stk→Prop)(r:Env×Stk)(hend: ∀done e s,Inv done e s→readyFrom 0 ops done=[]→(e.only live,s)=r)
 (hstep: ∀done e s i o,Inv done e s→ops[i]? =some o→i∉done→(∀p∈o.pre,p∈done)→ ∃e1 s1,runOps T (Run T) [o] e s=some (e1,s1)∧Inv (i::done) e1 s1):
 ∀(f:List AOper) (done:List Nat) (e:Env) (s:Stk),undone ops.length done≤f.length→Inv done e s→runAny T (Run T) ops live f done e s=some r
 |[],done,e,s,hu,h=>by
   have hz:readyFrom 0 ops done=[]:=by
    cases hr:readyFrom 0 ops done with
    |nil=>rfl
    |cons i l=>
      exfalso
      obtain⟨j,o,h1,h2,h3,_⟩:=(mem_ready ops 0 done i).1 (by rw[hr];simp)
      have hl:=(List.getElem?_eq_some_iff.1 h1).1
      have:=undone_step (n:=ops.length) (i:=i) (done:=done) (by omega) h3
      simp at hu;omega
   simp only[runAny,if_pos hz,hend _ _ _ h hz]
 |x::f,done,e,s,hu,h=>by
   simp only[runAny]
   by_cases hz:readyFrom 0 ops done=[]
   ·rw[if_pos hz,hend _ _ _ h hz]
   ·rw[if_neg hz]
    refine agree_all (by simpa using hz) fun y hy=> ?_
    obtain⟨i,hi,rfl⟩:=List.mem_map.1 hy
    obtain⟨j,o,h1,h2,h3,h4⟩:=(mem_ready ops 0 done i).1 hi
    rw[Nat.zero_add]at h2
    subst h2
    obtain⟨e1,s1,h5,h6⟩:=hstep done e s i o h h1 h3 h4
    have hl:=(List.getElem?_eq_some_iff.1 h1).1
    rw[h1]
    simp only[h5]
    exact runAny_inv Inv r hend hstep f (i::done) e1 s1 (by have:=undone_step (n:=ops.length) hl h3;simp at hu;omega) h6
theorem runAny_start {ops:List AOper} {live:List Nat} {e:Env} {s:Stk}(Inv:List Nat→Env→Stk→Prop)(r:Env×Stk)(h0:Inv [] e s)(hend: ∀done e s,Inv done e s→readyFrom 0 ops done=[]→(e.only live,s)=r)
 (hstep: ∀done e s i o,Inv done e s→ops[i]? =some o→i∉done→(∀p∈o.pre,p∈done)→ ∃e1 s1,runOps T (Run T) [o] e s=some (e1,s1)∧Inv (i::done) e1 s1):runAny T (Run T) ops live ops [] e s=some r:=
 runAny_inv Inv r hend hstep ops [] e s (by unfold undone;have:=List.length_filter_le (fun i=> !([]:List Nat).contains i) (List.range ops.length);simpa using this) h0
theorem ready_all {ops:List AOper} {done:List Nat}(h:readyFrom 0 ops done=[])(hp: ∀(i:Nat) o,ops[i]? =some o→ ∀p∈o.pre,p<i): ∀i,i<ops.length→i∈done:=by
 intro i
 induction i using Nat.strongRecOn with
 |ind i ih=>
   intro hi
   apply Classical.byContradiction
   intro hn
   have:i∈readyFrom 0 ops done:=(mem_ready ops 0 done i).2 ⟨i,ops[i],List.getElem?_eq_getElem hi,by omega,hn,fun p hq=>ih p (hp i _ (List.getElem?_eq_getElem hi) p hq) (by have:=hp i _ (List.getElem?_eq_getElem hi) p hq;omega)⟩
   rw[h]at this;cases this
end Go.Proofs.YtbcjofkfgpbhmaaGreat

/-
  Doors: Plan.
-/
namespace Go.Proofs.YtbcjofkfgpbhmaaGreat
open Go.Ab
theorem foldB_find {α σ:Type}(f:σ→α→σ)(p:α→Bool): ∀(l:List α) (a:σ) (d:α),∃a',foldB (fun(q:σ×α) x=>((f q.1 x,x),!p x)) l (a,d)=((a',((l.find? p).getD ((l.getLast?).getD d))),(l.find? p).isNone)
 |[],a,d=>⟨a,rfl⟩
 |x::l,a,d=>by
   simp only[foldB]
   cases h:p x
   ·obtain⟨a',e⟩:=foldB_find f p l (f a x) x
    refine⟨a',?_⟩
    simp only[Bool.not_false,if_true,e,List.find?_cons,h]
    congr 3
    cases l<;>simp[List.getLast?_cons]
   ·exact⟨f a x,by simp[List.find?_cons,h]⟩
@[simp] theorem Mem.nil_val {W:List Int→Int}:(Mem.nil:Mem W).1=[]:=rfl
def planS(t:DTrap):List Int:=((choicesS t.hands.toNat t.gates.length).find? fun c=>decide (leastT t (t.turns.toNat-1) c=worthT t t.turns.toNat)).getD []
def planR(t:DTrap):List Int×Int:=if doorB t=true then(if 0<t.turns then(planS t,0)else([],3))else([],30)
theorem plan_find {t:DTrap}(h:DoorOk t)(hT:0<t.turns): ∃c∈cN t,(cN t).find? (fun c=>decide (lO t (t.turns.toNat-1) (xorN (gN t) c) (nAt t)=wO t t.turns.toNat (gN t) (nAt t)))=some c∧planS t=bitsL c:=by
 have hup: ∀c∈choicesS t.hands.toNat t.gates.length,c∈allL 5:=fun c hc=>choices_up (by have:=h.gl;omega) hc
 have e1:(cN t).find? (fun c=>decide (lO t (t.turns.toNat-1) (xorN (gN t) c) (nAt t)=wO t t.turns.toNat (gN t) (nAt t)))=((choicesS t.hands.toNat t.gates.length).find? fun c=>decide (leastT t (t.turns.toNat-1) c=worthT t t.turns.toNat)).map maskL:=by
  unfold cN changesB
  rw[List.find?_map]
  congr 1
  have: ∀l:List (List Int),(∀c∈l,c∈allL 5)→l.find? ((fun c=>decide (lO t (t.turns.toNat-1) (xorN (gN t) c) (nAt t)=wO t t.turns.toNat (gN t) (nAt t)))∘maskL)=l.find? fun c=>decide (leastT t (t.turns.toNat-1) c=worthT t t.turns.toNat):=by
   intro l
   induction l with
   |nil=>intro _;rfl
   |cons x r ih=>
     intro hh
     simp only[List.find?_cons,Function.comp]
     rw[ih fun c hc=>hh c (by simp[hc]),lO_start h _ (hh x (by simp)),wO_start h]
  exact this _ hup
 have hf: ∀f∈fishL t,0≤f:=fun f hf=>by
  obtain⟨g,hg,rfl⟩:=List.mem_map.1 hf
  exact(h.groups g hg).2.1
 obtain⟨c,hc,e2⟩:=worthS_mem (n:=t.chambers.toNat) (h:=t.hands.toNat) hf (t.turns.toNat-1) t.gates (posL t)
 cases e3:(choicesS t.hands.toNat t.gates.length).find? fun c=>decide (leastT t (t.turns.toNat-1) c=worthT t t.turns.toNat)with
 |none=>
   have:=List.find?_eq_none.1 e3 c hc
   simp only[decide_eq_true_eq]at this
   exact absurd (by unfold leastT worthT;rw[show t.turns.toNat=t.turns.toNat-1+1 by omega];exact e2.symm) this
 |some c=>
   have hc:=List.mem_of_find?_eq_some e3
   refine⟨maskL c,List.mem_map.2 ⟨c,hc,rfl⟩,by rw[e1,e3];rfl,?_⟩
   unfold planS
   rw[e3,bits_mask c (hup c hc)];rfl
abbrev planX(t:DTrap)(d:Nat)(K:List (List Int×Int)):Ab.Loc:=[(16, .cell (dV t)),(176, .cell (gameV t (chB t) (.mp (.ptr d 1176 0)))),(1176, .mp (some 5) K),(80, .cell (scene0 t))]
def planOps:List AOper:=[⟨some 30, .mv (.t 4),none,[],[]⟩,⟨some 31, .load (some 5) (.t 5),none,[],[]⟩,⟨some 32, .mv (.t 8),none,[],[]⟩,⟨some 33, .call 34 [(.t 30),(.t 31),(.t 32)],none,[0,1,2],[]⟩,⟨some 34, .mv (.t 4),none,[],[999999]⟩,⟨some 35, .load (some 5) (.t 5),none,[],[999999]⟩,⟨some 36, .call 22 [(.t 34),(.t 35)],none,[4,5,3,0,1,2],[]⟩,⟨some 37, .bin .eql (.t 33) (.t 36),none,[6,4,5,3,0,1,2],[]⟩]
theorem planOps_pre: ∀(i:Nat) o,planOps[i]? =some o→ ∀p∈o.pre,p<i:=by
 intro i o h
 match i with
 |0|1|2|3|4|5|6|7=>simp[planOps]at h;subst h;simp
 |i+8=>simp[planOps]at h
structure PlanI(g c:V)(cs:List V)(w1 w2:Int)(l:List V)(q:Nat×Nat)(done:List Nat)(e:Env):Prop where
 g4:e.get 4=g
 g5:e.get 5= .ptr q.1 q.2 0
 g8:e.get 8=c
 gl:[e.get 24,e.get 25,e.get 26]=l
 h0:0∈done→e.get 30=g
 h1:1∈done→e.get 31= .agg cs
 h2:2∈done→e.get 32=c
 h3:3∈done→e.get 33=i64 w1
 h4:4∈done→e.get 34=g
 h5:5∈done→e.get 35= .agg cs
 h6:6∈done→e.get 36=i64 w2
 h7:7∈done→e.get 37= .bool (decide (w1=w2))
 clos6:6∈done→3∈done
set_option maxHeartbeats 4000000 in
theorem plan_region(c:Int)(d:Nat)(g:Nat)(a0 a1 a2 a3 a4:Int)(w1 w2:Int)(x24 x25 x26:V)(S0 S1 S2:Stk)(l0:sget S0 d 80=some (.cell [i64 a0,i64 a1,i64 a2,i64 a3,i64 a4]))(l1:sget S1 d 80=some (.cell [i64 a0,i64 a1,i64 a2,i64 a3,i64 a4]))(l2:sget S2 d 80=some (.cell [i64 a0,i64 a1,i64 a2,i64 a3,i64 a4]))
 (ha: ∀lab,den T 34 [.ptr d g 0, .agg [i64 a0,i64 a1,i64 a2,i64 a3,i64 a4],i64 c] lab S0=some (i64 w1,S1)) (hv: ∀lab,den T 22 [.ptr d g 0, .agg [i64 a0,i64 a1,i64 a2,i64 a3,i64 a4]] lab S1=some (i64 w2,S2)):
 runAny T (Run T) planOps [4,5,8,24,25,26,37] planOps [] [(4, .ptr d g 0),(5, .ptr d 80 0),(8,i64 c),(24,x24),(25,x25),(26,x26)] S0=
  some ([(4, .ptr d g 0),(5, .ptr d 80 0),(8,i64 c),(24,x24),(25,x25),(26,x26),(37, .bool (decide (w1=w2)))],S2):=by
 refine runAny_start (fun done e s=>PlanI (.ptr d g 0) (i64 c) [i64 a0,i64 a1,i64 a2,i64 a3,i64 a4] w1 w2 [x24,x25,x26] (d,80) done e∧s=if 6∈done then S2 else if 3∈done then S1 else S0) _ ?_ ?_ ?_
 ·exact⟨⟨rfl,rfl,rfl,rfl,by simp,by simp,by simp,by simp,by simp,by simp,by simp,by simp,by simp⟩,by simp⟩
 ·intro done e s ⟨h,hs⟩ hr
  have hall:=ready_all hr planOps_pre
  have hl:=h.gl
  simp only[List.cons.injEq,and_true]at hl
  simp[Env.only,h.g4,h.g5,h.g8,hl.1,hl.2.1,hl.2.2,h.h7 (hall 7 (by simp[planOps])),hs,hall 6 (by simp[planOps])]
 ·intro done e s i o ⟨h,hs⟩ ho hn hp
  match i with
  |0=>
    simp[planOps]at ho;subst ho
    refine⟨(30, .ptr d g 0)::e,s,by simp[h.g4,h.g8],⟨⟨by simp[h.g4],by simp[h.g5],by simp[h.g8],by simpa using h.gl,fun _=>by simp,fun hm=>by have:=h.h1 (by simpa using hm);simpa using this,fun hm=>by have:=h.h2 (by simpa using hm);simpa using this,fun hm=>by have:=h.h3 (by simpa using hm);simpa using this,fun hm=>by have:=h.h4 (by simpa using hm);simpa using this,fun hm=>by have:=h.h5 (by simpa using hm);simpa using this,fun hm=>by have:=h.h6 (by simpa using hm);simpa using this,fun hm=>by have:=h.h7 (by simpa using hm);simpa using this,fun hm=>by have:=h.clos6 (by simpa using hm);simp[this]⟩,by simpa using hs⟩⟩
  |1=>
    simp[planOps]at ho;subst ho
    have hl:sget s d 80=some (.cell [i64 a0,i64 a1,i64 a2,i64 a3,i64 a4]):=by
     rw[hs]
     split
     ·exact l2
     ·split
      ·exact l1
      ·exact l0
    refine⟨(31, .agg [i64 a0,i64 a1,i64 a2,i64 a3,i64 a4])::e,s,by simp[h.g5,hl],⟨⟨by simp[h.g4],by simp[h.g5],by simp[h.g8],by simpa using h.gl,fun hm=>by have:=h.h0 (by simpa using hm);simpa using this,fun _=>by simp,fun hm=>by have:=h.h2 (by simpa using hm);simpa using this,fun hm=>by have:=h.h3 (by simpa using hm);simpa using this,fun hm=>by have:=h.h4 (by simpa using hm);simpa using this,fun hm=>by have:=h.h5 (by simpa using hm);simpa using this,fun hm=>by have:=h.h6 (by simpa using hm);simpa using this,fun hm=>by have:=h.h7 (by simpa using hm);simpa using this,fun hm=>by have:=h.clos6 (by simpa using hm);simp[this]⟩,by simpa using hs⟩⟩
  |2=>
    simp[planOps]at ho;subst ho
    refine⟨(32,i64 c)::e,s,by simp[h.g4,h.g8],⟨⟨by simp[h.g4],by simp[h.g5],by simp[h.g8],by simpa using h.gl,fun hm=>by have:=h.h0 (by simpa using hm);simpa using this,fun hm=>by have:=h.h1 (by simpa using hm);simpa using this,fun _=>by simp,fun hm=>by have:=h.h3 (by simpa using hm);simpa using this,fun hm=>by have:=h.h4 (by simpa using hm);simpa using this,fun hm=>by have:=h.h5 (by simpa using hm);simpa using this,fun hm=>by have:=h.h6 (by simpa using hm);simpa using this,fun hm=>by have:=h.h7 (by simpa using hm);simpa using this,fun hm=>by have:=h.clos6 (by simpa using hm);simp[this]⟩,by simpa using hs⟩⟩
  |3=>
    simp[planOps]at ho;subst ho
    have m0:=hp 0 (by simp)
    have m1:=hp 1 (by simp)
    have m2:=hp 2 (by simp)
    have n6:6∉done:=fun h6=>absurd (h.clos6 h6) hn
    rw[if_neg n6,if_neg hn]at hs
    subst hs
    refine⟨(33,i64 w1)::e,S1,by simp[h.h0 m0,h.h1 m1,h.h2 m2,ha],⟨⟨by simp[h.g4],by simp[h.g5],by simp[h.g8],by simpa using h.gl,fun hm=>by have:=h.h0 (by simpa using hm);simpa using this,fun hm=>by have:=h.h1 (by simpa using hm);simpa using this,fun hm=>by have:=h.h2 (by simpa using hm);simpa using this,fun _=>by simp,fun hm=>by have:=h.h4 (by simpa using hm);simpa using this,fun hm=>by have:=h.h5 (by simpa using hm);simpa using this,fun hm=>by have:=h.h6 (by simpa using hm);simpa using this,fun hm=>by have:=h.h7 (by simpa using hm);simpa using this,fun hm=>by have:=h.clos6 (by simpa using hm);simp[this]⟩,by simp[n6]⟩⟩
  |4=>
    simp[planOps]at ho;subst ho
    refine⟨(34, .ptr d g 0)::e,s,by simp[h.g4,h.g8],⟨⟨by simp[h.g4],by simp[h.g5],by simp[h.g8],by simpa using h.gl,fun hm=>by have:=h.h0 (by simpa using hm);simpa using this,fun hm=>by have:=h.h1 (by simpa using hm);simpa using this,fun hm=>by have:=h.h2 (by simpa using hm);simpa using this,fun hm=>by have:=h.h3 (by simpa using hm);simpa using this,fun _=>by simp,fun hm=>by have:=h.h5 (by simpa using hm);simpa using this,fun hm=>by have:=h.h6 (by simpa using hm);simpa using this,fun hm=>by have:=h.h7 (by simpa using hm);simpa using this,fun hm=>by have:=h.clos6 (by simpa using hm);simp[this]⟩,by simpa using hs⟩⟩
  |5=>
    simp[planOps]at ho;subst ho
    have hl:sget s d 80=some (.cell [i64 a0,i64 a1,i64 a2,i64 a3,i64 a4]):=by
     rw[hs]
     split
     ·exact l2
     ·split
      ·exact l1
      ·exact l0
    refine⟨(35, .agg [i64 a0,i64 a1,i64 a2,i64 a3,i64 a4])::e,s,by simp[h.g5,hl],⟨⟨by simp[h.g4],by simp[h.g5],by simp[h.g8],by simpa using h.gl,fun hm=>by have:=h.h0 (by simpa using hm);simpa using this,fun hm=>by have:=h.h1 (by simpa using hm);simpa using this,fun hm=>by have:=h.h2 (by simpa using hm);simpa using this,fun hm=>by have:=h.h3 (by simpa using hm);simpa using this,fun hm=>by have:=h.h4 (by simpa using hm);simpa using this,fun _=>by simp,fun hm=>by have:=h.h6 (by simpa using hm);simpa using this,fun hm=>by have:=h.h7 (by simpa using hm);simpa using this,fun hm=>by have:=h.clos6 (by simpa using hm);simp[this]⟩,by simpa using hs⟩⟩
  |6=>
    simp[planOps]at ho;subst ho
    have m0:=hp 0 (by simp)
    have m1:=hp 1 (by simp)
    have m2:=hp 2 (by simp)
    have m3:=hp 3 (by simp)
    have m4:=hp 4 (by simp)
    have m5:=hp 5 (by simp)
    rw[if_neg hn,if_pos m3]at hs
    subst hs
    refine⟨(36,i64 w2)::e,S2,by simp[h.h4 m4,h.h5 m5,hv],⟨⟨by simp[h.g4],by simp[h.g5],by simp[h.g8],by simpa using h.gl,fun hm=>by have:=h.h0 (by simpa using hm);simpa using this,fun hm=>by have:=h.h1 (by simpa using hm);simpa using this,fun hm=>by have:=h.h2 (by simpa using hm);simpa using this,fun hm=>by have:=h.h3 (by simpa using hm);simpa using this,fun hm=>by have:=h.h4 (by simpa using hm);simpa using this,fun hm=>by have:=h.h5 (by simpa using hm);simpa using this,fun _=>by simp,fun hm=>by have:=h.h7 (by simpa using hm);simpa using this,fun hm=>by simp[m3]⟩,by simp⟩⟩
  |7=>
    simp[planOps]at ho;subst ho
    have m0:=hp 0 (by simp)
    have m1:=hp 1 (by simp)
    have m2:=hp 2 (by simp)
    have m3:=hp 3 (by simp)
    have m4:=hp 4 (by simp)
    have m5:=hp 5 (by simp)
    have m6:=hp 6 (by simp)
    rw[if_pos m6]at hs
    refine⟨(37, .bool (decide (w1=w2)))::e,s,by simp[h.h3 m3,h.h6 m6],⟨⟨by simp[h.g4],by simp[h.g5],by simp[h.g8],by simpa using h.gl,fun hm=>by have:=h.h0 (by simpa using hm);simpa using this,fun hm=>by have:=h.h1 (by simpa using hm);simpa using this,fun hm=>by have:=h.h2 (by simpa using hm);simpa using this,fun hm=>by have:=h.h3 (by simpa using hm);simpa using this,fun hm=>by have:=h.h4 (by simpa using hm);simpa using this,fun hm=>by have:=h.h5 (by simpa using hm);simpa using this,fun hm=>by have:=h.h6 (by simpa using hm);simpa using this,fun _=>by simp,fun hm=>by have:=h.clos6 (by simpa using hm);simp[this]⟩,by simp[m6,hs]⟩⟩
  |i+8=>simp[planOps]at ho
set_option maxHeartbeats 8000000 in
theorem e_Plan(t:DTrap)(hs:ShortD t)(lab s):den T 16 [.agg (dV t)] lab s=some (.tup [.sl .no 1 (es cInt (planR t).1),i64 (planR t).2],s):=by
 unfold planR
 cases h:doorB t
 ·have hb:=fun lab loc s=>e_begin_bad t hs h true lab loc s
  rw[den_fn t16 _ _ _ rfl]
  simp only[b16]
  simp (maxSteps:=1000000) (disch:=first|omega|assumption|decide +kernel|(simp;done)|(simp;omega)|fail) [hb]
 ·have ho:=doorB_iff.1 h
  have hb:=fun lab loc k0 k1=>e_begin t ho lab loc s k0 k1
  have htu:=ho.tu
  by_cases hT:0<t.turns
  ·have hk:t.turns.toNat-1<4:=by omega
   have hk1:((t.turns.toNat-1+1:Nat):Int)=t.turns:=by omega
   have hk2:t.turns.toNat-1+1=t.turns.toNat:=by omega
   have G: ∀X:Stk,GameD t (chB t) (.mp (.ptr s.length 1176 0)) s.length 176 s.length 1176 (X.length+(s.length+1)) (fun K=>X ++planX t s.length K::s):=fun X=>(GameD.top (s:=s) (lg:=176) (lm:=1176) (X:=planX t s.length) (fun K=>rfl) (fun K=>rfl) (fun K K'=>rfl)).push X
   have ha:=fun(c:Nat) hc K lab=>e_after ho hk (@e_value t ho (t.turns.toNat-1) (by omega)) (G []) rfl (gN t) c (gN_lt ho) hc (nAt_in ho) K lab
   have hv:=fun K lab=>e_value ho t.turns.toNat (by omega) (G []) rfl (gN t) (nAt t) K lab (gN_lt ho) (nAt_in ho)
   have hT2:((t.turns.toNat:Nat):Int)=t.turns:=by omega
   rw[hk1,←start_cells]at ha
   rw[hT2,←start_cells]at hv
   obtain⟨c0,hc0,hf0,hp0⟩:=plan_find ho hT
   have hcl:(chB t).length=(cN t).length:=by simp[chB,natI]
   have hlen:(cN t).length≤32:=by rw[←hcl];exact(chB_len ho).2.2
   have key:=loop_list_e (T:=Go.Proofs.YtbcjofkfgpbhmaaGreat.T) (live:=[4,5,24,25,26]) (keep:=[16,80,176,1176]) (b:=d16l0) (cN t)
    (fun _ (_:MemW t×Nat)=>True)
    (fun k _=>[(4, .ptr s.length 176 0),(5, .ptr s.length 80 0),(24, .sl .no 1 (es cInt (chB t))),(25,i64 (cN t).length),(26,i64 (k:Nat))]) (fun _ p=>planX t s.length p.1.1::s)
    (fun p c=>((valK t t.turns.toNat (gN t) (nAt t) (aftK t (valK t (t.turns.toNat-1)) (xorN (gN t) c) (nAt t) p.1),c),!decide (lO t (t.turns.toNat-1) (xorN (gN t) c) (nAt t)=wO t t.turns.toNat (gN t) (nAt t))))
    (fun(_:Unit) p=>(.ret,[(2, .sl .no 1 (es cInt (bitsL p.2))),(3,i64 0)],planX t s.length p.1.1::s)) (fun p=>(.exit 0,[(4, .ptr s.length 176 0),(5, .ptr s.length 80 0),(24, .sl .no 1 (es cInt (chB t))),(25,i64 (cN t).length),(26,i64 (cN t).length),(27, .bool false)],planX t s.length p.1.1::s))
    (by simp) (by simp) ?_ ?_ (Mem.nil,0) trivial [(4, .ptr s.length 176 0),(5, .ptr s.length 80 0),(24, .sl .no 1 (es cInt (chB t))),(25,i64 (cN t).length),(26,i64 0)] (planX t s.length []::s) (by simp) (by simp)
   ·obtain⟨g,hg⟩:=key
    obtain⟨K',e⟩:=foldB_find (fun(K:MemW t) c=>valK t t.turns.toNat (gN t) (nAt t) (aftK t (valK t (t.turns.toNat-1)) (xorN (gN t) c) (nAt t) K)) (fun c=>decide (lO t (t.turns.toNat-1) (xorN (gN t) c) (nAt t)=wO t t.turns.toNat (gN t) (nAt t))) (cN t) Mem.nil 0
    rw[e,hf0]at hg
    simp only[Option.getD_some,Option.isNone_some,Bool.false_eq_true,if_false]at hg
    change Run T b16l0 _ _=_ at hg
    rw[←hp0]at hg
    simp only[planX,scene0,sceneV,gN]at hb hg
    generalize planS t=P at*
    generalize gateBits t.gates=o at*
    generalize chB t=C at*
    generalize (cN t).length=N at*
    clear ha hv e
    have hT3: ¬t.turns≤0:=by omega
    rw[den_fn t16 _ _ _ rfl]
    simp only[b16]
    simp (maxSteps:=1000000) (disch:=first|omega|assumption|decide +kernel|(simp;done)|(simp;omega)|fail) [hb,hT,hg,hcl]
   ·intro k p hk hp
    obtain⟨K,c1⟩:=p
    have hk2:(k:Int)<(cN t).length:=by omega
    have hk3:k<(chB t).length:=by omega
    have hcj:(chB t)[k]=((cN t)[k]:Int):=by simp[chB,natI]
    have hc:=cN_lt ho (List.getElem_mem hk)
    have ha1:=ha _ hc K
    have hv1:=hv (aftK t (valK t (t.turns.toNat-1)) (xorN (gN t) (cN t)[k]) (nAt t) K)
    have hls:=fun lab s=>e_list (cN t)[k] hc lab s
    generalize (cN t)[k]=c at*
    generalize aftK t (valK t (t.turns.toNat-1)) (xorN (gN t) c) (nAt t) K=K1 at*
    generalize valK t t.turns.toNat (gN t) (nAt t) K1=K2 at*
    simp only[List.nil_append]at ha1 hv1
    have hreg:=plan_region (c:Nat) s.length 176 t.turns (gN t:Nat) (at0 t 0) (at0 t 1) (at0 t 2) _ _ (.sl .no 1 (es cInt (chB t))) (i64 (cN t).length) (i64 (k:Nat)) (planX t s.length K.1::s) (planX t s.length K1.1::s) (planX t s.length K2.1::s) (by simp) (by simp) (by simp) ha1 hv1
    simp only[planOps]at hreg
    generalize lO t (t.turns.toNat-1) (xorN (gN t) c) (nAt t)=w1 at*
    generalize wO t t.turns.toNat (gN t) (nAt t)=w2 at*
    clear ha hv
    generalize chB t=C at*
    by_cases hw:w1=w2
    ·refine⟨fun hb=>by simp[hw]at hb,fun _=>⟨(),?_⟩⟩
     simp (maxSteps:=1000000) (disch:=first|omega|assumption|decide +kernel|(simp;done)|(simp;omega)|fail) [run_each2,hk,hk2,hk3,hcj,hreg,hls,hw,wk k (by omega)]
    ·refine⟨fun _=>⟨?_,trivial⟩,fun hb=>by simp[hw]at hb⟩
     simp (maxSteps:=1000000) (disch:=first|omega|assumption|decide +kernel|(simp;done)|(simp;omega)|fail) [run_each2,hk,hk2,hk3,hcj,hreg,hls,hw,wk k (by omega)]
   ·intro p hp
    simp
  ·skip
   rw[den_fn t16 _ _ _ rfl]
   simp only[b16]
   simp only[scene0]at hb
   simp (maxSteps:=1000000) (disch:=first|omega|assumption|decide +kernel|(simp;done)|(simp;omega)|fail) [hb,hT]
end Go.Proofs.YtbcjofkfgpbhmaaGreat

/-
  Doors: bitsOf, changed, After.
-/
namespace Go.Proofs.YtbcjofkfgpbhmaaGreat
open Go.Ab
theorem foldS_allF {α σ ρ:Type}(p:α→Bool)(g:σ→α→σ)(q:ρ)(fin:σ→ρ): ∀(l:List α) (a:σ),foldS (fun a x=>if p x=true then .inl (g a x)else .inr q) fin l a=if l.all p=true then fin (l.foldl g a)else q
 |[],a=>by simp[foldS]
 |x::l,a=>by
   by_cases h:p x=true
   ·simp[foldS,h,foldS_allF p g q fin l]
   ·simp[foldS,h]
def orAt(c:List Int)(o k:Nat):Nat:=orN o (powN (c.getD k 0).toNat)
theorem orAt_mask(c:List Int):(List.range c.length).foldl (orAt c) 0=maskL c:=by
 have key: ∀(r:List Int) (a:Nat),(List.range r.length).foldl (fun o k=>orN o (powN (r.getD k 0).toNat)) a=r.foldl (fun g n=>g|||(1<<<n.toNat)) a:=by
  intro r
  induction r with
  |nil=>intro a;rfl
  |cons x r ih=>
    intro a
    rw[List.length_cons,List.range_succ_eq_map,List.foldl_cons,List.foldl_map]
    simp only[List.getD_cons_succ,List.getD_cons_zero,List.foldl_cons]
    rw[ih]
    simp[orN,powN,Nat.one_shiftLeft]
 exact key c 0
theorem or_lt {o n:Nat}(h:o<32)(hn:n≤4):orN o (powN n)<32:=by
 unfold orN powN
 exact Nat.or_lt_two_pow (n:=5) h (Nat.pow_lt_pow_right (by decide) (by omega))
def bitsR(t:DTrap)(c:List Int):Int×Bool:=if rising c 0 (t.gates.length-1)=true then((maskL c:Nat),decide ((c.length:Int)≤t.hands))else(0,false)
set_option maxHeartbeats 2000000 in
theorem e_bitsOf(t:DTrap)(hl:t.gates.length≤5)(C:List Int)(m:V)(c:List Int)(hc:c.length<1000000000000)(d l:Nat)(s:Stk)(hd:d<s.length)(h:sget s d l=some (.cell (gameV t C m)))(lab):
 den T 56 [.ptr d l 0, .sl .no 1 (es cInt c)] lab s=some (.tup [i64 (bitsR t c).1, .bool (bitsR t c).2],s):=by
 have hd': ¬d=s.length:=by omega
 have key:=loop_list (T:=Go.Proofs.YtbcjofkfgpbhmaaGreat.T) (live:=[0,1,4,8,9,10]) (keep:=[]) (b:=d56l0) (List.range c.length) (fun _ (o:Nat)=>o<32)
  (fun k o=>[(0, .ptr d l 0),(1, .sl .no 1 (es cInt c)),(4,i64 (o:Nat)),(8, .sl .no 1 (es cInt c)),(9,i64 c.length),(10,i64 (k:Nat))]) (fun _ _=>[]::s)
  (fun o k=>if risingAt c 0 (t.gates.length-1) k=true then .inl (orAt c o k)else .inr (.ret,[(4,i64 0),(5, .bool false)],[]::s))
  (fun o=>(.exit 0,[(0, .ptr d l 0),(1, .sl .no 1 (es cInt c)),(4,i64 (o:Nat)),(8, .sl .no 1 (es cInt c)),(9,i64 c.length),(10,i64 c.length),(11, .bool false)],[]::s))
  ?_ ?_ ?_ ?_ (by simp) 0 (by simp) [(0, .ptr d l 0),(1, .sl .no 1 (es cInt c)),(4,i64 0),(8, .sl .no 1 (es cInt c)),(9,i64 c.length),(10,i64 0)] ([]::s) (by simp[hd']) (by simp)
 ·rw[foldS_allF]at key
  rw[orAt_mask]at key
  change Run T b56l0 _ _=some (if rising c 0 (t.gates.length-1)=true then _ else _)at key
  unfold bitsR
  generalize maskL c=M at*
  rw[den_fn t56 _ _ _ rfl]
  simp only[b56]
  by_cases hr:rising c 0 (t.gates.length-1)=true
  ·rw[if_pos hr]at key
   simp (maxSteps:=1000000) (disch:=first|omega|assumption|decide +kernel|(simp;done)|(simp;omega)|fail) [run_drawnK,orSlow_none,h,hd',key,hr]
  ·rw[if_neg hr]at key
   simp (maxSteps:=1000000) (disch:=first|omega|assumption|decide +kernel|(simp;done)|(simp;omega)|fail) [h,hd',key,hr]
 ·intro k o hk ho
  simp only[List.length_range]at hk
  simp only[List.getElem_range]
  have hk':(k:Int)<c.length:=by omega
  have hg:c.getD k 0=c[k]:=by simp[List.getD,hk]
  have w1:IntKind.i64.wrap ((t.gates.length:Int)-1)=(t.gates.length:Int)-1:=wi _ (by omega) (by omega)
  unfold orAt
  rw[hg]
  cases h0:wiB c[k] 0 (t.gates.length-1)
  ·simp (maxSteps:=1000000) (disch:=first|omega|assumption|decide +kernel|(simp;done)|(simp;omega)|fail) [hk,h,hd',h0,w1,risingAt,hg]
  have hb:0≤c[k]∧c[k]≤t.gates.length-1:=by simpa [wiB]using h0
  obtain⟨n,hn⟩: ∃n:Nat,c[k]=n:=⟨c[k].toNat,by omega⟩
  have hn4:n≤4:=by omega
  have s1:=bshl (n:=n) (by omega)
  have s2:=bor (a:=o) (b:=powN n) (by omega) (powN_lt (by omega))
  have hwk:=wk k (by omega)
  by_cases h1:k=0
  ·subst h1
   have hne: ¬c=[]:=fun e=>by simp[e]at hk
   generalize hx:c[0]=x at*
   subst hn
   simp (maxSteps:=1000000) (disch:=first|omega|assumption|decide +kernel|(simp;done)|(simp;omega)|fail) [show IntKind.i64.wrap 1=1 by decide,hk,hx,hne,h,hd',h0,w1,risingAt,hg,s1,s2,-bin_shl,-bin_or]
  have hk1:k-1<c.length:=by omega
  have h1p:0<k:=by omega
  have h1q:(1:Int)≤k:=by omega
  have hg1:c.getD (k-1) 0=c[k-1]:=by simp[List.getD,hk1]
  have hnn:((k:Int)-1).toNat=k-1:=by omega
  have hwk2:IntKind.i64.wrap ((k:Int)-1)=(k:Int)-1:=wi _ (by omega) (by omega)
  by_cases h2:c[k-1]<c[k]
  ·have h3: ¬c[k]≤c[k-1]:=by omega
   generalize hx:c[k]=x at*
   subst hn
   simp (maxSteps:=1000000) (disch:=first|omega|assumption|decide +kernel|(simp;done)|(simp;omega)|fail) [hk,hk',hk1,hx,h,hd',h0,w1,risingAt,hg,hg1,h1,h1p,h1q,h2,h3,hnn,hwk,hwk2,s1,s2,-bin_shl,-bin_or]
  ·have h3:c[k]≤c[k-1]:=by omega
   generalize hx:c[k]=x at*
   subst hn
   simp (maxSteps:=1000000) (disch:=first|omega|assumption|decide +kernel|(simp;done)|(simp;omega)|fail) [hk,hk',hk1,hx,h,hd',h0,w1,risingAt,hg,hg1,h1,h1p,h1q,h2,h3,hnn,hwk,hwk2,s1,s2,-bin_shl,-bin_or]
 ·intro k o o' hk ho hs
  simp only[List.length_range]at hk
  simp only[List.getElem_range]at hs
  split at hs
  ·rename_i hr
   simp only[Sum.inl.injEq]at hs
   subst hs
   have hb:0≤c.getD k 0∧c.getD k 0≤t.gates.length-1:=by
    simp only[risingAt,Bool.and_eq_true]at hr
    simpa [wiB]using hr.1
   exact or_lt ho (by omega)
  ·cases hs
 ·intro k o q hk ho hs
  split at hs
  ·cases hs
  ·simp only[Sum.inr.injEq]at hs
   subst hs;simp
 ·intro o ho
  simp
end Go.Proofs.YtbcjofkfgpbhmaaGreat

/-
  Doors: changed, After.
-/
namespace Go.Proofs.YtbcjofkfgpbhmaaGreat
open Go.Ab
def openR(t:DTrap)(c:List Int):Int:=if doorB t=true then(if isChangeB t.hands t.gates.length c=true then(if t.turns=0 then 3 else 0)else 1)else 30
theorem bits_is {t:DTrap} {c:List Int}:(bitsR t c).2=isChangeB t.hands t.gates.length c:=by
 unfold bitsR isChangeB
 split<;>rename_i h<;>simp[h]
theorem bits_mk {t:DTrap} {c:List Int}(h:isChangeB t.hands t.gates.length c=true):(bitsR t c).1=(maskL c:Nat):=by
 unfold bitsR
 simp only[isChangeB,Bool.and_eq_true]at h
 rw[if_pos h.2]
theorem change_all {t:DTrap}(h:DoorOk t) {c:List Int}(hc:isChangeB t.hands t.gates.length c=true):c∈choicesS t.hands.toNat t.gates.length∧c∈allL 5∧maskL c<32:=by
 have hh:t.hands=(t.hands.toNat:Int):=by have:=h.ha;omega
 rw[hh]at hc
 have h1:=isChange_mem.1 hc
 have h2:=choices_up (by have:=h.gl;omega) h1
 exact⟨h1,h2,mask_lt 5 (by decide) c h2⟩
set_option maxHeartbeats 4000000 in
theorem e_changed(t:DTrap)(h:DoorOk t)(c:List Int)(hc:c.length<1000000000000)(hi:isChangeB t.hands t.gates.length c=true)(hT:t.turns≠0)(lab)(loc:Ab.Loc)(s:Stk)(k0:loc.get lab=none)(k1:loc.get (lab+1000)=none):
 den T 36 [.agg (dV t), .sl .no 1 (es cInt c)] lab (loc::s)=some (.tup [.ptr s.length lab 0, .agg (scene0 t),i64 (maskL c:Nat),i64 0],
  Loc.put (Loc.put loc lab (.cell (gameV t (chB t) (.mp (.ptr s.length (lab+1000) 0))))) (lab+1000) (.mp (some 5) [])::s):=by
 have hb:=fun lab l1 k0 k1=>e_begin t h lab l1 (loc::s) k0 k1
 have hbi:=fun(F:Ab.Loc) (hF:Loc.get F 240=some (.cell (gameV t (chB t) (.mp (.ptr (s.length+1) 1240 0))))) lab=>e_bitsOf t h.gl (chB t) (.mp (.ptr (s.length+1) 1240 0)) c hc (s.length+1) 240 (F::loc::s) (by simp) (by simp[hF]) lab
 have h1:=bits_is (t:=t) (c:=c)
 rw[hi]at h1
 have h2:=bits_mk hi
 rw[h1,h2]at hbi
 simp only[scene0]at hb⊢
 generalize maskL c=M at*
 generalize gateBits t.gates=o at*
 generalize chB t=C at*
 rw[den_fn t36 _ _ _ rfl]
 simp only[b36]
 simp (maxSteps:=1000000) (disch:=first|omega|assumption|decide +kernel|(simp;done)|(simp;omega)|fail) [run_drawnK,orSlow_none,hb,hbi,hT,k0,k1,newLab,idxOf,dedup]
set_option maxHeartbeats 4000000 in
theorem e_changed_bad(t:DTrap)(hs:ShortD t)(c:List Int)(hc:c.length<1000000000000)(he:openR t c≠0)(lab)(loc:Ab.Loc)(s:Stk):
 ∃sc:Int×Int×Int×Int×Int,den T 36 [.agg (dV t), .sl .no 1 (es cInt c)] lab (loc::s)=some (.tup [.nilp, .agg (sceneV sc.1 sc.2.1 sc.2.2.1 sc.2.2.2.1 sc.2.2.2.2),i64 0,i64 (openR t c)],loc::s):=by
 unfold openR at he⊢
 cases hd:doorB t
 ·have hb:=fun lab l1 s=>e_begin_bad t hs hd true lab l1 s
  refine⟨(0,0,0,0,0),?_⟩
  rw[den_fn t36 _ _ _ rfl]
  simp only[b36]
  simp (maxSteps:=1000000) (disch:=first|omega|assumption|decide +kernel|(simp;done)|(simp;omega)|fail) [run_drawnK,orSlow_none,hb]
 ·have h:=doorB_iff.1 hd
  rw[hd]at he
  have hb:=fun lab l1 k0 k1=>e_begin t h lab l1 (loc::s) k0 k1
  have hbi:=fun(F:Ab.Loc) (hF:Loc.get F 240=some (.cell (gameV t (chB t) (.mp (.ptr (s.length+1) 1240 0))))) lab=>e_bitsOf t h.gl (chB t) (.mp (.ptr (s.length+1) 1240 0)) c hc (s.length+1) 240 (F::loc::s) (by simp) (by simp[hF]) lab
  have h1:=bits_is (t:=t) (c:=c)
  rw[h1]at hbi
  simp only[scene0]at hb⊢
  refine⟨(t.turns,(gateBits t.gates:Nat),at0 t 0,at0 t 1,at0 t 2),?_⟩
  generalize gateBits t.gates=o at*
  generalize chB t=C at*
  generalize (bitsR t c).1=M at*
  cases hi:isChangeB t.hands t.gates.length c
  ·rw[hi]at hbi
   rw[den_fn t36 _ _ _ rfl]
   simp only[b36]
   simp (maxSteps:=1000000) (disch:=first|omega|assumption|decide +kernel|(simp;done)|(simp;omega)|fail) [run_drawnK,orSlow_none,hb,hbi]
  ·rw[hi]at hbi he
   have hT:t.turns=0:=by
    apply Classical.byContradiction;intro hT
    simp[hT]at he
   rw[den_fn t36 _ _ _ rfl]
   simp only[b36]
   simp (maxSteps:=1000000) (disch:=first|omega|assumption|decide +kernel|(simp;done)|(simp;omega)|fail) [run_drawnK,orSlow_none,hb,hbi,(show(t.turns=0)=True by simp[hT])]
def afterR(t:DTrap)(c:List Int):Int×Int:=if openR t c=0 then(leastT t (t.turns.toNat-1) c,0)else(0,openR t c)
theorem open_ok {t:DTrap} {c:List Int}(h:openR t c=0):DoorOk t∧isChangeB t.hands t.gates.length c=true∧t.turns≠0:=by
 unfold openR at h
 split at h
 ·rename_i hd
  refine⟨doorB_iff.1 hd,?_⟩
  split at h
  ·rename_i hi
   refine⟨hi,fun hT=> ?_⟩
   rw[if_pos hT]at h;omega
  ·omega
 ·omega
set_option maxHeartbeats 4000000 in
theorem e_After(t:DTrap)(hs:ShortD t)(c:List Int)(hc:c.length<1000000000000)(lab s):den T 17 [.agg (dV t), .sl .no 1 (es cInt c)] lab s=some (.tup [i64 (afterR t c).1,i64 (afterR t c).2],s):=by
 unfold afterR
 by_cases he:openR t c=0
 ·obtain⟨ho,hi,hT⟩:=open_ok he
  obtain⟨_,hc5,hm⟩:=change_all ho hi
  have htu:=ho.tu
  have hb:=fun lab l1 k0 k1=>e_changed t ho c hc hi hT lab l1 s k0 k1
  have hk1:((t.turns.toNat-1+1:Nat):Int)=t.turns:=by omega
  have ha:=fun lab=>e_after ho (show t.turns.toNat-1<4 by omega) (@e_value t ho (t.turns.toNat-1) (by omega)) (GameD.top (s:=s) (lg:=208) (lm:=1208) (X:=fun K=>[(32, .cell (dV t)),(208, .cell (gameV t (chB t) (.mp (.ptr s.length 1208 0)))),(1208, .mp (some 5) K),(112, .cell (scene0 t))]) (fun K=>rfl) (fun K=>rfl) (fun K K'=>rfl)) rfl (gN t) (maskL c) (gN_lt ho) hm (nAt_in ho) Mem.nil lab
  rw[lO_start ho _ hc5,hk1,←start_cells]at ha
  simp only[scene0,gN]at hb ha
  rw[if_pos he]
  generalize leastT t _ c=w at*
  generalize aftK t _ _ _ _=K' at*
  generalize chB t=C at*
  generalize maskL c=M at*
  generalize gateBits t.gates=o at*
  change∀lab,den T _ _ lab ([(32,_),(208,_),(1208, .mp (some 5) []),(112,_)]::s)=_ at ha
  rw[den_fn t17 _ _ _ rfl]
  simp only[b17]
  simp (maxSteps:=1000000) (disch:=first|omega|assumption|decide +kernel|(simp;done)|(simp;omega)|fail) [hb,ha]
 ·obtain⟨sc,hb⟩: ∃sc:Nat→Ab.Loc→Int×Int×Int×Int×Int,∀lab loc,den T 36 [.agg (dV t), .sl .no 1 (es cInt c)] lab (loc::s)=some (.tup [.nilp, .agg (sceneV (sc lab loc).1 (sc lab loc).2.1 (sc lab loc).2.2.1 (sc lab loc).2.2.2.1 (sc lab loc).2.2.2.2),i64 0,i64 (openR t c)],loc::s):=
   ⟨fun lab loc=>Classical.choose (e_changed_bad t hs c hc he lab loc s),fun lab loc=>Classical.choose_spec (e_changed_bad t hs c hc he lab loc s)⟩
  rw[if_neg he]
  generalize openR t c=e at*
  rw[den_fn t17 _ _ _ rfl]
  simp only[b17]
  simp (maxSteps:=1000000) (disch:=first|omega|assumption|decide +kernel|(simp;done)|(simp;omega)|fail) [hb,he]
end Go.Proofs.YtbcjofkfgpbhmaaGreat

/-
  Doors: Reply.
-/
namespace Go.Proofs.YtbcjofkfgpbhmaaGreat
open Go.Ab
theorem e_CloneC(k:Nat)(hk:k≤3)(x0 x1 x2:Int)(T1 o:Int)(d l:Nat)(s:Stk)(hd:d<s.length)(h:sget s d l=some (.cell (sceneL T1 o [x0,x1,x2])))(lab):
 den T 38 [.csl (.ptr d l 2) k] lab s=some (.sl .no 1 (es cInt ([x0,x1,x2].take k)),s):=by
 have hd': ¬d=s.length:=by omega
 simp only[sceneL,List.map_cons,List.map_nil]at h
 obtain rfl|rfl|rfl|rfl:k=0∨k=1∨k=2∨k=3:=by omega
 all_goals
  (rw[den_fn t38 _ _ _ rfl]
   simp only[b38]
   simp (maxSteps:=1000000) (disch:=first|omega|assumption|decide +kernel|(simp;done)|(simp;omega)|fail) [h,hd',es,appmK]<;>rfl)
def replyOps:List AOper:=[⟨some 32, .load none (.t 6),none,[],[]⟩,⟨some 33, .load (some 5) (.t 11),none,[],[]⟩,⟨some 34, .call 22 [(.t 32),(.t 33)],none,[0,1],[]⟩,⟨some 35, .load none (.t 10),none,[],[999999]⟩,⟨some 36, .bin .eql (.t 34) (.t 35),none,[2,3,0,1],[]⟩]
theorem replyOps_pre: ∀(i:Nat) o,replyOps[i]? =some o→ ∀p∈o.pre,p<i:=by
 intro i o h
 match i with
 |0|1|2|3|4=>simp[replyOps]at h;subst h;simp
 |i+5=>simp[replyOps]at h
structure ReplyI(g:V)(cs:List V)(w1 w2:Int)(x2 x4 x5 p6 p10 p11:V)(done:List Nat)(e:Env):Prop where
 g2:e.get 2=x2
 g4:e.get 4=x4
 g5:e.get 5=x5
 g6:e.get 6=p6
 g10:e.get 10=p10
 g11:e.get 11=p11
 h0:0∈done→e.get 32=g
 h1:1∈done→e.get 33= .agg cs
 h2:2∈done→e.get 34=i64 w1
 h3:3∈done→e.get 35=i64 w2
 h4:4∈done→e.get 36= .bool (decide (w1=w2))
set_option maxHeartbeats 4000000 in
theorem reply_region(d L g:Nat)(a0 a1 a2 a3 a4:Int)(w1 w2:Int)(x2 x4 x5:V)(S0 S1:Stk)(l6:sget S0 L 96=some (.cell [.ptr L g 0]))(l11:sget S0 d 176=some (.cell [i64 a0,i64 a1,i64 a2,i64 a3,i64 a4]))(l10:sget S0 L 160=some (.cell [i64 w2]))
 (r6:sget S1 L 96=some (.cell [.ptr L g 0])) (r11:sget S1 d 176=some (.cell [i64 a0,i64 a1,i64 a2,i64 a3,i64 a4])) (r10:sget S1 L 160=some (.cell [i64 w2]))
 (hv: ∀lab,den T 22 [.ptr L g 0, .agg [i64 a0,i64 a1,i64 a2,i64 a3,i64 a4]] lab S0=some (i64 w1,S1)):
 runAny T (Run T) replyOps [2,4,5,11,36] replyOps [] [(2,x2),(4,x4),(5,x5),(6, .ptr L 96 0),(10, .ptr L 160 0),(11, .ptr d 176 0)] S0=
  some ([(2,x2),(4,x4),(5,x5),(11, .ptr d 176 0),(36, .bool (decide (w1=w2)))],S1):=by
 refine runAny_start (fun done e s=>ReplyI (.ptr L g 0) [i64 a0,i64 a1,i64 a2,i64 a3,i64 a4] w1 w2 x2 x4 x5 (.ptr L 96 0) (.ptr L 160 0) (.ptr d 176 0) done e∧s=if 2∈done then S1 else S0) _ ?_ ?_ ?_
 ·exact⟨⟨rfl,rfl,rfl,rfl,rfl,rfl,by simp,by simp,by simp,by simp,by simp⟩,by simp⟩
 ·intro done e s ⟨h,hs⟩ hr
  have hall:=ready_all hr replyOps_pre
  simp[Env.only,h.g2,h.g4,h.g5,h.g11,h.h4 (hall 4 (by simp[replyOps])),hs,hall 2 (by simp[replyOps])]
 ·intro done e s i o ⟨h,hs⟩ ho hn hp
  have e6:sget s L 96=some (.cell [.ptr L g 0]):=by rw[hs];split<;>assumption
  have e11:sget s d 176=some (.cell [i64 a0,i64 a1,i64 a2,i64 a3,i64 a4]):=by rw[hs];split<;>assumption
  have e10:sget s L 160=some (.cell [i64 w2]):=by rw[hs];split<;>assumption
  match i with
  |0=>
    simp[replyOps]at ho;subst ho
    refine⟨(32, .ptr L g 0)::e,s,by simp[h.g6,e6],⟨⟨by simp[h.g2],by simp[h.g4],by simp[h.g5],by simp[h.g6],by simp[h.g10],by simp[h.g11],fun _=>by simp,fun hm=>by have:=h.h1 (by simpa using hm);simpa using this,fun hm=>by have:=h.h2 (by simpa using hm);simpa using this,fun hm=>by have:=h.h3 (by simpa using hm);simpa using this,fun hm=>by have:=h.h4 (by simpa using hm);simpa using this⟩,by simpa using hs⟩⟩
  |1=>
    simp[replyOps]at ho;subst ho
    refine⟨(33, .agg [i64 a0,i64 a1,i64 a2,i64 a3,i64 a4])::e,s,by simp[h.g11,e11],⟨⟨by simp[h.g2],by simp[h.g4],by simp[h.g5],by simp[h.g6],by simp[h.g10],by simp[h.g11],fun hm=>by have:=h.h0 (by simpa using hm);simpa using this,fun _=>by simp,fun hm=>by have:=h.h2 (by simpa using hm);simpa using this,fun hm=>by have:=h.h3 (by simpa using hm);simpa using this,fun hm=>by have:=h.h4 (by simpa using hm);simpa using this⟩,by simpa using hs⟩⟩
  |2=>
    simp[replyOps]at ho;subst ho
    have m0:=hp 0 (by simp)
    have m1:=hp 1 (by simp)
    rw[if_neg hn]at hs
    subst hs
    refine⟨(34,i64 w1)::e,S1,by simp[h.h0 m0,h.h1 m1,hv],⟨⟨by simp[h.g2],by simp[h.g4],by simp[h.g5],by simp[h.g6],by simp[h.g10],by simp[h.g11],fun hm=>by have:=h.h0 (by simpa using hm);simpa using this,fun hm=>by have:=h.h1 (by simpa using hm);simpa using this,fun _=>by simp,fun hm=>by have:=h.h3 (by simpa using hm);simpa using this,fun hm=>by have:=h.h4 (by simpa using hm);simpa using this⟩,by simp⟩⟩
  |3=>
    simp[replyOps]at ho;subst ho
    refine⟨(35,i64 w2)::e,s,by simp[h.g10,e10],⟨⟨by simp[h.g2],by simp[h.g4],by simp[h.g5],by simp[h.g6],by simp[h.g10],by simp[h.g11],fun hm=>by have:=h.h0 (by simpa using hm);simpa using this,fun hm=>by have:=h.h1 (by simpa using hm);simpa using this,fun hm=>by have:=h.h2 (by simpa using hm);simpa using this,fun _=>by simp,fun hm=>by have:=h.h4 (by simpa using hm);simpa using this⟩,by simpa using hs⟩⟩
  |4=>
    simp[replyOps]at ho;subst ho
    have m0:=hp 0 (by simp)
    have m1:=hp 1 (by simp)
    have m2:=hp 2 (by simp)
    have m3:=hp 3 (by simp)
    refine⟨(36, .bool (decide (w1=w2)))::e,s,by simp[h.h2 m2,h.h3 m3],⟨⟨by simp[h.g2],by simp[h.g4],by simp[h.g5],by simp[h.g6],by simp[h.g10],by simp[h.g11],fun hm=>by have:=h.h0 (by simpa using hm);simpa using this,fun hm=>by have:=h.h1 (by simpa using hm);simpa using this,fun hm=>by have:=h.h2 (by simpa using hm);simpa using this,fun hm=>by have:=h.h3 (by simpa using hm);simpa using this,fun _=>by simp⟩,by simp[m2,hs]⟩⟩
  |i+5=>simp[replyOps]at ho
end Go.Proofs.YtbcjofkfgpbhmaaGreat

/-
  Doors: Reply, the whole.
-/
namespace Go.Proofs.YtbcjofkfgpbhmaaGreat
open Go.Ab
def resV(t:DTrap):Option (List Int)→V
 |none=> .sl .full 1 []
 |some m=> .sl .no 1 (es cInt (m.take t.groups.length))
def replyE(L:Nat):Env:=[(2, .ptr L 32 0),(4, .ptr L 64 0),(5, .ptr L 80 0),(6, .ptr L 96 0),(10, .ptr L 160 0),(30, .fn 57 [] [.ptr L 480 0, .ptr L 1480 0, .ptr L 2480 0])]
def replyF(t:DTrap)(L:Nat)(T':Int)(o2:Nat)(n:List Int)(x:LoopState)(ex:Option Ex)(least:Int)(K:List (List Int×Int))(res:Option (List Int)):Ab.Loc:=
 [(32, .cell (dV t)),(64, .cell [resV t res]),(80, .cell [i64 0]),(240, .cell (gameV t (chB t) (.mp (.ptr L 1240 0)))),(1240, .mp (some 5) K),(96, .cell [.ptr L 240 0]),(112, .cell (scene0 t)),(160, .cell [i64 least]),
  (480, .cell [.ptr L 240 0]),(1480, .cell (sceneL T' (o2:Nat) n)),(2480, .cell (scene0 t)),(4615, .loop [31] b18l0 b18l1 (replyE L) x ex)]
def replyY(t:DTrap)(k o2:Nat)(least:Int)(a:MemW t×Option (List Int))(m:List Int):(MemW t×Option (List Int))×Bool:=
 if wO t k o2 m=least then((valK t k o2 m a.1,some m),false)else((valK t k o2 m a.1,none),true)
abbrev replySt(t:DTrap)(s:Stk)(T':Int)(o2:Nat)(least:Int)(n:List Int)(a:MemW t×Option (List Int)):Stk:=
 replyF t s.length T' o2 n (if a.2.isSome=true then .done else .ready) (if a.2.isSome=true then some .ret else none) least a.1.1 a.2::s
set_option maxHeartbeats 4000000 in
theorem reply_yield(t:DTrap)(h:DoorOk t)(k:Nat)(hk4:k<4)(s:Stk)(T':Int)(hk:T'=(k:Nat))(o2:Nat)(ho2:o2<32)(least:Int):
 YieldD t (chB t) (.mp (.ptr s.length 1240 0)) (MemW t×Option (List Int)) s.length 4615 s.length 480 s.length 240 (s.length+1) t.turns (gN t:Nat) T' (o2:Nat) (nAt t) (replySt t s T' o2 least) (replyY t k o2 least) (fun a=>a.2=none) where
 len:=fun n a=>by simp
 ltd:=by omega
 ltb:=by omega
 ltg:=by omega
 gbox:=fun n a=>by rw[sget_top];rfl
 game:=fun n a=>by rw[sget_top];rfl
 next:=fun n a=>by rw[sget_top];rfl
 scene:=fun n a=>by rw[sget_top];rfl
 put:=fun n n' a=>by rw[sput_top];rfl
 keep:=fun n a _ _ hb=>by
  unfold replyY at hb⊢
  split at hb
  ·cases hb
  ·rename_i h1;rw[if_neg h1]
 yield:=fun fr n a lab hn hok=>by
  obtain⟨K,res⟩:=a
  simp only at hok
  subst hok
  have top: ∀x ex res (K:List (List Int×Int)) l',sget (fr ++replyF t s.length T' o2 n x ex least K res::s) s.length l'=(replyF t s.length T' o2 n x ex least K res).get l':=fun x ex res K l'=>by
   rw[sget_append _ _ _ _ (by simp),sget_top]
  have put: ∀x ex res (K:List (List Int×Int)) l' en,sput (fr ++replyF t s.length T' o2 n x ex least K res::s) s.length l' en=fr ++(replyF t s.length T' o2 n x ex least K res).put l' en::s:=fun x ex res K l' en=>by
   rw[sput_append _ _ _ _ _ (by simp),sput_top]
  have hlen: ∀x ex res (K:List (List Int×Int)),s.length<(fr ++replyF t s.length T' o2 n x ex least K res::s).length:=fun x ex res K=>by simp;omega
  have G:=(GameD.top (t:=t) (C:=chB t) (s:=s) (lg:=240) (lm:=1240) (X:=fun K=>replyF t s.length T' o2 n .busy none least K none) (fun K=>rfl) (fun K=>rfl) (fun K K'=>rfl)).push ([(176, .cell (sceneL T' (o2:Nat) n))]::fr)
  have hv:=fun lab=>e_value h k (by omega) G rfl o2 n K lab ho2 hn
  rw[←hk]at hv
  simp only[List.cons_append]at hv
  obtain⟨x0,x1,x2,rfl⟩: ∃x0 x1 x2,n=[x0,x1,x2]:=by
   match n,hn.1 with
   |[x0,x1,x2],_=>exact⟨x0,x1,x2,rfl⟩
  obtain⟨X,hX⟩: ∃X:List (List Int×Int)→Option (List Int)→Stk,∀K res,fr ++replyF t s.length T' o2 [x0,x1,x2] .busy none least K res::s=X K res:=⟨_,fun _ _=>rfl⟩
  have gX: ∀K res l',sget (X K res) s.length l'=(replyF t s.length T' o2 [x0,x1,x2] .busy none least K res).get l':=fun K res l'=>by rw[←hX,top]
  have hXl: ∀K res,¬s.length=(X K res).length:=fun K res=>by have:=hlen .busy none res K;rw[hX]at this;omega
  have hpX: ∀(K:List (List Int×Int)) res m,sput (X K res) s.length 64 (.cell [.sl .no 1 (es cInt (List.take t.groups.length m))])=X K (some m):=fun K res m=>by rw[←hX,put,←hX];rfl
  have hpX2: ∀(K:List (List Int×Int)) res,sput (X K res) s.length 80 (.cell [i64 0])=X K res:=fun K res=>by rw[←hX,put];rfl
  simp only[hX]at hv
  have hcl:=fun(K:List (List Int×Int)) res lab=>e_CloneC t.groups.length h.ol x0 x1 x2 T' (o2:Nat) (X K res).length 176 ([(176, .cell (sceneL T' (o2:Nat) [x0,x1,x2]))]::X K res) (by simp) (by rw[sget_top];rfl) lab
  generalize hK2:valK t k o2 [x0,x1,x2] K=K2 at*
  have hreg:=reply_region (X K.1 none).length s.length 240 T' (o2:Nat) x0 x1 x2 (wO t k o2 [x0,x1,x2]) least (.ptr s.length 32 0) (.ptr s.length 64 0) (.ptr s.length 80 0) ([(176, .cell (sceneL T' (o2:Nat) [x0,x1,x2]))]::X K.1 none) ([(176, .cell (sceneL T' (o2:Nat) [x0,x1,x2]))]::X K2.1 none)
   (by rw[sget_cons,if_neg (hXl _ _),gX];rfl) (by rw[sget_top];rfl) (by rw[sget_cons,if_neg (hXl _ _),gX];rfl) (by rw[sget_cons,if_neg (hXl _ _),gX];rfl)
   (by rw[show(X K.1 none).length=(X K2.1 none).length by rw[←hX,←hX];simp,sget_top];rfl) (by rw[sget_cons,if_neg (hXl _ _),gX];rfl) hv
  have hXll:(X K2.1 none).length=(X K.1 none).length:=by rw[←hX,←hX];simp
  have hXll2: ∀m,(X K2.1 (some m)).length=(X K.1 none).length:=fun m=>by rw[←hX,←hX];simp
  have g32:=fun K res=>gX K res 32
  have g64: ∀K res,sget (X K res) s.length 64=some (.cell [resV t res]):=fun K res=>by rw[gX];rfl
  have g80: ∀K res,sget (X K res) s.length 80=some (.cell [i64 0]):=fun K res=>by rw[gX];rfl
  have hgl:(t.groups.length:Int)≤3:=by have:=h.ol;omega
  simp only[replyF,dV]at g32
  simp only[planOps,replyOps]at hreg
  have hcl2:=hcl K2.1 none
  rw[hXll]at hcl2
  have hyr: ∀res (K:List (List Int×Int)) x1' ex1,sput (X K res) s.length 4615 (.loop [31] b18l0 b18l1 (replyE s.length) x1' ex1)=fr ++replyF t s.length T' o2 [x0,x1,x2] x1' ex1 least K res::s:=fun res K x1' ex1=>by rw[←hX,put];rfl
  have hXd:s.length<(X K.1 none).length:=by have:=hlen .busy none none K.1;rw[hX]at this;exact this
  have hA:fr ++replyF t s.length T' o2 [x0,x1,x2] .ready none least K.1 none::s=fr ++replySt t s T' o2 least [x0,x1,x2] (K,none):=rfl
  have hAl:(fr ++replyF t s.length T' o2 [x0,x1,x2] .ready none least K.1 none::s).length=(X K.1 none).length:=by rw[←hX];simp
  by_cases hw:wO t k o2 [x0,x1,x2]=least
  ·have B: ∃e,Run T b18l1 [(2, .ptr s.length 32 0),(4, .ptr s.length 64 0),(5, .ptr s.length 80 0),(6, .ptr s.length 96 0),(10, .ptr s.length 160 0),(11, .ptr (X K.1 none).length 176 0)] ([(176, .cell (sceneL T' (o2:Nat) [x0,x1,x2]))]::X K.1 none)=
    some (.ret,e,[(176, .cell (sceneL T' (o2:Nat) [x0,x1,x2]))]::X K2.1 (some [x0,x1,x2])):=by
    refine⟨[(4, .ptr s.length 64 0),(5, .ptr s.length 80 0)],?_⟩
    simp only[b18l1]
    simp (maxSteps:=1000000) (disch:=first|omega|assumption|decide +kernel|(simp;done)|(simp;omega)|fail) [run_each2,hreg,hw,hXl,hXll,hXll2,g32,g64,g80,hcl2,hpX,hpX2,hgl,hiOf]
   obtain⟨e,hB⟩:=B
   have hY:replyY t k o2 least (K,none) [x0,x1,x2]=((K2,some [x0,x1,x2]),false):=by unfold replyY;rw[if_pos hw,hK2]
   rw[hY]
   refine(yld_run (ps:=[31]) (A:=b18l0) (B:=b18l1) (env:=replyE s.length) (ex:= .ret) (st:= .busy) (p:=none) (s3:=X K2.1 (some [x0,x1,x2])) (by rw[top];rfl) rfl (e1:=[(2, .ptr s.length 32 0),(4, .ptr s.length 64 0),(5, .ptr s.length 80 0),(6, .ptr s.length 96 0),(10, .ptr s.length 160 0),(11, .ptr (X K.1 none).length 176 0)]) (fr1:=[(176, .cell (sceneL T' (o2:Nat) [x0,x1,x2]))]) ?_ (hlen _ _ _ _) (e2:=e) (fr2:=[(176, .cell (sceneL T' (o2:Nat) [x0,x1,x2]))]) ?_ (by rw[gX];rfl)).trans ?_
   ·rw[←hAl];simp[b18l0,bindEnv,replyE]
   ·rw[put]
    exact(congrArg (fun q=>Run T _ _ ([_]::q)) (hX K.1 none)).trans hB
   ·have:=hyr (some [x0,x1,x2]) K2.1 .done (some .ret)
    simp only[yldE,yldB,this];rfl
  ·have B: ∃e,Run T b18l1 [(2, .ptr s.length 32 0),(4, .ptr s.length 64 0),(5, .ptr s.length 80 0),(6, .ptr s.length 96 0),(10, .ptr s.length 160 0),(11, .ptr (X K.1 none).length 176 0)] ([(176, .cell (sceneL T' (o2:Nat) [x0,x1,x2]))]::X K.1 none)=
    some (.normal,e,[(176, .cell (sceneL T' (o2:Nat) [x0,x1,x2]))]::X K2.1 none):=by
    refine⟨[(2, .ptr s.length 32 0),(4, .ptr s.length 64 0),(5, .ptr s.length 80 0),(11, .ptr (X K.1 none).length 176 0),(36, .bool false)],?_⟩
    simp only[b18l1]
    simp (maxSteps:=1000000) (disch:=first|omega|assumption|decide +kernel|(simp;done)|(simp;omega)|fail) [run_each2,hreg,hw]
   obtain⟨e,hB⟩:=B
   have hY:replyY t k o2 least (K,none) [x0,x1,x2]=((K2,none),true):=by unfold replyY;rw[if_neg hw,hK2]
   rw[hY]
   refine(yld_run (ps:=[31]) (A:=b18l0) (B:=b18l1) (env:=replyE s.length) (ex:= .normal) (st:= .busy) (p:=none) (s3:=X K2.1 none) (by rw[top];rfl) rfl (e1:=[(2, .ptr s.length 32 0),(4, .ptr s.length 64 0),(5, .ptr s.length 80 0),(6, .ptr s.length 96 0),(10, .ptr s.length 160 0),(11, .ptr (X K.1 none).length 176 0)]) (fr1:=[(176, .cell (sceneL T' (o2:Nat) [x0,x1,x2]))]) ?_ (hlen _ _ _ _) (e2:=e) (fr2:=[(176, .cell (sceneL T' (o2:Nat) [x0,x1,x2]))]) ?_ (by rw[gX];rfl)).trans ?_
   ·rw[←hAl];simp[b18l0,bindEnv,replyE]
   ·rw[put]
    exact(congrArg (fun q=>Run T _ _ ([_]::q)) (hX K.1 none)).trans hB
   ·have:=hyr none K2.1 .ready none
    simp only[yldE,yldB,this];rfl
end Go.Proofs.YtbcjofkfgpbhmaaGreat

/-
  Doors: Reply, the end.
-/
namespace Go.Proofs.YtbcjofkfgpbhmaaGreat
open Go.Ab
theorem foldB_first {α σ β:Type}(p:α→Prop) [DecidablePred p](f:σ→α→σ)(g:α→β): ∀(l:List α) (a:σ) (m:α),l.find? (fun x=>decide (p x))=some m→
 ∃a',foldB (fun(q:σ×Option β) x=>if p x then((f q.1 x,some (g x)),false)else((f q.1 x,none),true)) l (a,none)=((a',some (g m)),false)
 |[],_,_,h=>by simp at h
 |x::l,a,m,h=>by
   simp only[foldB]
   by_cases hp:p x
   ·have hm:x=m:=by rw[List.find?_cons,decide_eq_true hp]at h;simpa using h
    subst hm
    exact⟨f a x,by simp[hp]⟩
   ·have hm:l.find? (fun x=>decide (p x))=some m:=by rw[List.find?_cons,decide_eq_false hp]at h;simpa using h
    obtain⟨a',e⟩:=foldB_first p f g l (f a x) m hm
    exact⟨a',by simp only[hp,if_false,if_true];exact e⟩
def movesT(t:DTrap)(c:List Int):List (List Int):=movesS ((posL t).map (waysS t.chambers.toNat (flipG t.gates c)))
def replyS(t:DTrap)(c:List Int):List Int:=((movesT t c).find? fun m=>decide (worthS t.chambers.toNat t.hands.toNat (fishL t) (t.turns.toNat-1) (flipG t.gates c) m=leastT t (t.turns.toNat-1) c)).getD []
def replyR(t:DTrap)(c:List Int):List Int×Int:=if openR t c=0 then(replyS t c,0)else([],openR t c)
theorem moves_start {t:DTrap}(h:DoorOk t) {c:List Int}(hc:c∈allL 5):movesO t (xorN (gN t) (maskL c)) (nAt t)=movesT t c:=by
 unfold movesT movesO
 rw[nAt_take h,open_flip h.gl _ hc,openG_bits]
theorem reply_find {t:DTrap} {c:List Int}: ∃m,(movesT t c).find? (fun m=>decide (worthS t.chambers.toNat t.hands.toNat (fishL t) (t.turns.toNat-1) (flipG t.gates c) m=leastT t (t.turns.toNat-1) c))=some m∧replyS t c=m∧m∈movesT t c:=by
 obtain⟨m0,h1,h2⟩:=leastS_mem t.chambers.toNat t.hands.toNat (fishL t) (t.turns.toNat-1) (flipG t.gates c) (posL t)
 cases h:(movesT t c).find? fun m=>decide (worthS t.chambers.toNat t.hands.toNat (fishL t) (t.turns.toNat-1) (flipG t.gates c) m=leastT t (t.turns.toNat-1) c)with
 |none=>
   have:=List.find?_eq_none.1 h m0 h1
   simp only[decide_eq_true_eq]at this
   exact absurd h2.symm this
 |some m=>exact⟨m,rfl,by simp[replyS,h],List.mem_of_find?_eq_some h⟩
theorem reply_fold {t:DTrap}(h:DoorOk t) {c:List Int}(hc:c∈allL 5)(K:MemW t): ∃K':MemW t,foldD t (xorN (gN t) (maskL c)) (nAt t) (replyY t (t.turns.toNat-1) (xorN (gN t) (maskL c)) (leastT t (t.turns.toNat-1) c)) (K,none)=((K',some (replyS t c ++(nAt t).drop t.groups.length)),false)∧(replyS t c ++(nAt t).drop t.groups.length).take t.groups.length=replyS t c:=by
 obtain⟨m,h1,h2,h3⟩:=reply_find (t:=t) (c:=c)
 have hm:=moves_start h hc
 have hin:=nAt_in h
 obtain⟨K',e⟩:=foldB_first (fun m=>worthS t.chambers.toNat t.hands.toNat (fishL t) (t.turns.toNat-1) (flipG t.gates c) m=leastT t (t.turns.toNat-1) c)
  (fun(K:MemW t) m=>valK t (t.turns.toNat-1) (xorN (gN t) (maskL c)) (m ++(nAt t).drop t.groups.length) K) (fun m=>m ++(nAt t).drop t.groups.length) (movesT t c) K m h1
 refine⟨K',?_,by rw[h2];exact moves_take h hin (hm▸h3)⟩
 rw[h2]
 refine Eq.trans ?_ e
 unfold foldD
 rw[hm]
 refine foldB_congr fun x hx a=> ?_
 have hw:wO t (t.turns.toNat-1) (xorN (gN t) (maskL c)) (x ++(nAt t).drop t.groups.length)=worthS t.chambers.toNat t.hands.toNat (fishL t) (t.turns.toNat-1) (flipG t.gates c) x:=by
  unfold wO
  rw[moves_take h hin (hm▸hx),open_flip h.gl _ hc,openG_bits]
 simp only[replyY,hw]
set_option maxHeartbeats 8000000 in
theorem e_Reply(t:DTrap)(hs:ShortD t)(c:List Int)(hc:c.length<1000000000000)(lab s):den T 18 [.agg (dV t), .sl .no 1 (es cInt c)] lab s=some (.tup [.sl .no 1 (es cInt (replyR t c).1),i64 (replyR t c).2],s):=by
 unfold replyR
 by_cases he:openR t c=0
 ·obtain⟨ho,hi,hT⟩:=open_ok he
  obtain⟨_,hc5,hmk⟩:=change_all ho hi
  have htu:=ho.tu
  have hk4:t.turns.toNat-1<4:=by omega
  have hb:=fun lab l1 k0 k1=>e_changed t ho c hc hi hT lab l1 s k0 k1
  have hk1:((t.turns.toNat-1+1:Nat):Int)=t.turns:=by omega
  have hk2:t.turns-1=((t.turns.toNat-1:Nat):Int):=by omega
  have ha:=fun lab=>e_after ho hk4 (@e_value t ho (t.turns.toNat-1) (by omega)) (GameD.top (s:=s) (lg:=240) (lm:=1240) (X:=fun K=>[(32, .cell (dV t)),(64, .cell [.sl .full 1 []]),(80, .cell [i64 0]),(240, .cell (gameV t (chB t) (.mp (.ptr s.length 1240 0)))),(1240, .mp (some 5) K),(96, .cell [.ptr s.length 240 0]),(112, .cell (scene0 t))]) (fun K=>rfl) (fun K=>rfl) (fun K K'=>rfl)) rfl (gN t) (maskL c) (gN_lt ho) hmk (nAt_in ho) Mem.nil lab
  rw[lO_start ho _ hc5,hk1,←start_cells]at ha
  have hm:=fun(loc:Ab.Loc) lab=>e_moves t.turns (gN t) (maskL c) (by omega) (at0 t 0) (at0 t 1) (at0 t 2) (gN_lt ho) hmk s.length 240 lab loc s (by omega)
  have ho2:xorN (gN t) (maskL c)<32:=Nat.xor_lt_two_pow (n:=5) (gN_lt ho) hmk
  have y:=reply_yield t ho (t.turns.toNat-1) hk4 s (t.turns-1) hk2 (xorN (gN t) (maskL c)) ho2 (leastT t (t.turns.toNat-1) c)
  generalize hK1:aftK t _ _ _ _=K1 at ha
  obtain⟨K',hf,htk⟩:=reply_fold ho hc5 K1
  obtain⟨n',hn',hl⟩:=e_loopD t ho ho2 (nAt_in ho) y (K1,none) rfl
  rw[hf]at hl
  simp only[replySt,replyF,resV,htk,Option.isSome_none,Option.isSome_some,Bool.false_eq_true,if_false,if_true,replyE,nAt]at hl
  simp only[scene0,gN,sceneL,List.map_cons,List.map_nil,Nat.reduceAdd]at hb ha hm hl
  rw[if_pos he]
  have htw:IntKind.i64.wrap (t.turns-1)=t.turns-1:=wi _ (by omega) (by omega)
  clear hf y
  simp only[nAt]at htk
  generalize replyS t c=R at*
  generalize leastT t _ c=w at*
  generalize chB t=C at*
  generalize maskL c=M at*
  generalize gateBits t.gates=o at*
  generalize xorN o M=o2 at*
  change∀lab,den T _ _ lab ([(32,_),(64,_),(80,_),(240,_),(1240, .mp (some 5) []),(96,_),(112,_)]::s)=_ at ha
  rw[den_fn t18 _ _ _ rfl]
  simp only[b18]
  simp (maxSteps:=1000000) (disch:=first|omega|assumption|decide +kernel|(simp;done)|(simp;omega)|fail) [run_drawnK,orSlow_none,hb,ha,hm,hl,htk]
 ·obtain⟨sc,hb⟩: ∃sc:Nat→Ab.Loc→Int×Int×Int×Int×Int,∀lab loc,den T 36 [.agg (dV t), .sl .no 1 (es cInt c)] lab (loc::s)=some (.tup [.nilp, .agg (sceneV (sc lab loc).1 (sc lab loc).2.1 (sc lab loc).2.2.1 (sc lab loc).2.2.2.1 (sc lab loc).2.2.2.2),i64 0,i64 (openR t c)],loc::s):=
   ⟨fun lab loc=>Classical.choose (e_changed_bad t hs c hc he lab loc s),fun lab loc=>Classical.choose_spec (e_changed_bad t hs c hc he lab loc s)⟩
  rw[if_neg he]
  generalize openR t c=e at*
  rw[den_fn t18 _ _ _ rfl]
  simp only[b18]
  simp (maxSteps:=1000000) (disch:=first|omega|assumption|decide +kernel|(simp;done)|(simp;omega)|fail) [hb,he]
end Go.Proofs.YtbcjofkfgpbhmaaGreat

/-
  Doors: reaches: where a group can come to.
-/
namespace Go.Proofs.YtbcjofkfgpbhmaaGreat
open Go.Ab
def canG(n h:Nat)(fs:List Int):Nat→List DGate→List Int→Bool
 |0,_,ps=>decide (0<caughtS n fs ps)
 |k+1,gs,ps=>(choicesS h gs.length).any fun c=>(movesS (ps.map (waysS n (flipG gs c)))).any (canG n h fs k (flipG gs c))
def cO(t:DTrap)(k o:Nat)(n:List Int):Bool:=canG t.chambers.toNat t.hands.toNat (fishL t) k (openG o t.gates) (n.take t.groups.length)
theorem any_congr {α:Type} {f g:α→Bool}: ∀ {l:List α},(∀x∈l,f x=g x)→l.any f=l.any g
 |[],_=>rfl
 |x::l,h=>by rw[List.any_cons,List.any_cons,h x (by simp),any_congr fun y hy=>h y (by simp[hy])]
theorem cO_succ {t:DTrap}(h:DoorOk t)(k o:Nat) {n:List Int}(hn:InN t n):cO t (k+1) o n=(cN t).any fun c=>(movesO t (xorN o c) n).any fun m=>cO t k (xorN o c) (m ++n.drop t.groups.length):=by
 unfold cO
 rw[canG,openS_length]
 simp only[cN,changesB,List.any_map]
 refine any_congr fun c hc=> ?_
 have hc5:=choices_up (by have:=h.gl;omega) hc
 simp only[Function.comp]
 rw[←open_flip h.gl o hc5]
 refine any_congr fun m hm=> ?_
 rw[moves_take h hn hm]
def cKey(t:DTrap):List Int→Int
 |[k,o,a,b,c]=>if cO t k.toNat o.toNat [a,b,c]=true then 0 else 1
 |_=>0
abbrev MemC(t:DTrap):=Mem (cKey t)
theorem cKey_key(t:DTrap)(k o:Nat) {n:List Int}(hn:n.length=3):cKey t (keyD k o n)=if cO t k o n=true then 0 else 1:=by
 match n,hn with
 |[a,b,c],_=>simp[keyD,cKey]
def CanD(t:DTrap)(C:List Int)(k:Nat)(f:Nat→List Int→MemC t→MemC t):Prop:= ∀ {m:V} {dg lg dm lm L:Nat} {S:List (List Int×Int)→Stk},GameD t C m dg lg dm lm L S→
 ∀(o:Nat) (n:List Int) (K:MemC t) (lab:Nat),o<32→InN t n→den T 23 [.ptr dg lg 0, .agg (sceneL (k:Nat) (o:Nat) n), .mp (.ptr dm lm 0)] lab (S K.1)=some (.bool (cO t k o n),S (f o n K).1)
def reachE(L:Nat)(C:List Int)(i:Nat):Env:=[(3, .ptr L 48 0),(4, .ptr L 64 0),(5, .ptr L 80 0),(6, .ptr L 96 0),(25, .sl .no 1 (es cInt C)),(26,i64 C.length),(27,i64 (i:Nat)),(34, .fn 57 [] [.ptr L 544 0, .ptr L 1544 0, .ptr L 2544 0])]
def reachF(L dg lg dm lm:Nat)(C:List Int)(i:Nat)(T1 T':Int)(o o2:Nat)(n0 n:List Int)(x:LoopState)(ex:Option Ex)(res:Bool):Ab.Loc:=
 [(48, .cell [.ptr dg lg 0]),(64, .cell (sceneL T1 (o:Nat) n0)),(80, .cell [.mp (.ptr dm lm 0)]),(96, .cell [.bool res]),(544, .cell [.ptr dg lg 0]),(1544, .cell (sceneL T' (o2:Nat) n)),(2544, .cell (sceneL T1 (o:Nat) n0)),
  (5895, .loop [35] b23l1 b23l2 (reachE L C i) x ex)]
def reachY(t:DTrap)(k o2:Nat)(f:Nat→List Int→MemC t→MemC t)(a:MemC t×Bool)(m:List Int):(MemC t×Bool)×Bool:=
 if cO t k o2 m=true then((f o2 m a.1,true),false)else((f o2 m a.1,false),true)
abbrev reachSt(t:DTrap)(L dg lg dm lm:Nat)(C:List Int)(i:Nat)(T1 T':Int)(o o2:Nat)(n0:List Int)(S:List (List Int×Int)→Stk)(n:List Int)(a:MemC t×Bool):Stk:=
 reachF L dg lg dm lm C i T1 T' o o2 n0 n (if a.2=true then .done else .ready) (if a.2=true then some .ret else none) a.2::S a.1.1
set_option maxHeartbeats 4000000 in
theorem reach_yield(t:DTrap)(C:List Int)(k:Nat)(f)(hf:CanD t C k f) {m:V} {dg lg dm lm L:Nat} {S:List (List Int×Int)→Stk}(G:GameD t C m dg lg dm lm L S)
 (i:Nat) (T1 T':Int) (hk:T'=(k:Nat)) (o o2:Nat) (ho2:o2<32) (n0:List Int):
 YieldD t C m (MemC t×Bool) L 5895 L 544 dg lg (L+1) T1 (o:Nat) T' (o2:Nat) n0 (reachSt t L dg lg dm lm C i T1 T' o o2 n0 S) (reachY t k o2 f) (fun a=>a.2=false) where
 len:=fun n a=>by simp[G.len]
 ltd:=by omega
 ltb:=by omega
 ltg:=by have:=G.ltg;omega
 gbox:=fun n a=>by rw[←G.len a.1.1,sget_top];rfl
 game:=fun n a=>by rw[sget_cons,if_neg (by rw[G.len];have:=G.ltg;omega),G.game]
 next:=fun n a=>by rw[←G.len a.1.1,sget_top];rfl
 scene:=fun n a=>by rw[←G.len a.1.1,sget_top];rfl
 put:=fun n n' a=>by
  have e:=G.len a.1.1
  unfold reachSt
  generalize S a.1.1=X at*
  subst e
  rw[sput_top];rfl
 keep:=fun n a _ _ hb=>by
  unfold reachY at hb⊢
  split at hb
  ·cases hb
  ·rename_i h1;rw[if_neg h1]
 yield:=fun fr n a lab hn hok=>by
  obtain⟨K,res⟩:=a
  simp only at hok
  subst hok
  have top: ∀x ex res (K:List (List Int×Int)) l',sget (fr ++reachF L dg lg dm lm C i T1 T' o o2 n0 n x ex res::S K) L l'=(reachF L dg lg dm lm C i T1 T' o o2 n0 n x ex res).get l':=fun x ex res K l'=>by
   rw[sget_append _ _ _ _ (by simp[G.len]),←G.len K,sget_top]
  have put: ∀x ex res (K:List (List Int×Int)) l' en,sput (fr ++reachF L dg lg dm lm C i T1 T' o o2 n0 n x ex res::S K) L l' en=fr ++(reachF L dg lg dm lm C i T1 T' o o2 n0 n x ex res).put l' en::S K:=fun x ex res K l' en=>by
   rw[sput_append _ _ _ _ _ (by simp[G.len])]
   have e:=G.len K
   generalize S K=X at*
   subst e
   rw[sput_top]
  have hlen: ∀x ex res (K:List (List Int×Int)),L<(fr ++reachF L dg lg dm lm C i T1 T' o o2 n0 n x ex res::S K).length:=fun x ex res K=>by simp[G.len];omega
  have hv:=fun lab=>hf (G.push ([(144, .cell (sceneL T' (o2:Nat) n))]::(fr ++[reachF L dg lg dm lm C i T1 T' o o2 n0 n .busy none false]))) o2 n K lab ho2 hn
  rw[←hk]at hv
  simp only[List.cons_append,List.append_assoc,List.nil_append]at hv
  obtain⟨x0,x1,x2,rfl⟩: ∃x0 x1 x2,n=[x0,x1,x2]:=by
   match n,hn.1 with
   |[x0,x1,x2],_=>exact⟨x0,x1,x2,rfl⟩
  obtain⟨X,hX⟩: ∃X:List (List Int×Int)→Bool→Stk,∀K res,fr ++reachF L dg lg dm lm C i T1 T' o o2 n0 [x0,x1,x2] .busy none res::S K=X K res:=⟨_,fun _ _=>rfl⟩
  have gX: ∀K res l',sget (X K res) L l'=(reachF L dg lg dm lm C i T1 T' o o2 n0 [x0,x1,x2] .busy none res).get l':=fun K res l'=>by rw[←hX,top]
  have hXl: ∀K res,¬L=(X K res).length:=fun K res=>by have:=hlen .busy none res K;rw[hX]at this;omega
  have hpX: ∀(K:List (List Int×Int)) res b,sput (X K res) L 96 (.cell [.bool b])=X K b:=fun K res b=>by rw[←hX,put,←hX];rfl
  have g48: ∀K res,sget (X K res) L 48=some (.cell [.ptr dg lg 0]):=fun K res=>by rw[gX];rfl
  have g80: ∀K res,sget (X K res) L 80=some (.cell [.mp (.ptr dm lm 0)]):=fun K res=>by rw[gX];rfl
  have g96: ∀K res,sget (X K res) L 96=some (.cell [.bool res]):=fun K res=>by rw[gX];rfl
  simp only[hX]at hv
  have hyr: ∀res (K:List (List Int×Int)) x1' ex1,sput (X K res) L 5895 (.loop [35] b23l1 b23l2 (reachE L C i) x1' ex1)=fr ++reachF L dg lg dm lm C i T1 T' o o2 n0 [x0,x1,x2] x1' ex1 res::S K:=fun res K x1' ex1=>by rw[←hX,put];rfl
  have hAl:(fr ++reachF L dg lg dm lm C i T1 T' o o2 n0 [x0,x1,x2] .ready none false::S K.1).length=(X K.1 false).length:=by rw[←hX];simp
  have hXll: ∀(K':MemC t) b,(X K'.1 b).length=(X K.1 false).length:=fun K' b=>by rw[←hX,←hX];simp[G.len]
  generalize hK2:f o2 [x0,x1,x2] K=K2 at*
  simp only[sceneL,List.map_cons,List.map_nil]at hv
  cases hw:cO t k o2 [x0,x1,x2]<;>rw[hw]at hv
  ·have B: ∃e,Run T b23l2 [(3, .ptr L 48 0),(4, .ptr L 64 0),(5, .ptr L 80 0),(6, .ptr L 96 0),(9, .ptr (X K.1 false).length 144 0),(25, .sl .no 1 (es cInt C)),(26,i64 C.length),(27,i64 (i:Nat))] ([(144, .cell (sceneL T' (o2:Nat) [x0,x1,x2]))]::X K.1 false)=
    some (.normal,e,[(144, .cell (sceneL T' (o2:Nat) [x0,x1,x2]))]::X K2.1 false):=by
    refine⟨[(3, .ptr L 48 0),(4, .ptr L 64 0),(5, .ptr L 80 0),(6, .ptr L 96 0),(25, .sl .no 1 (es cInt C)),(26,i64 C.length),(27,i64 (i:Nat)),(39, .bool false)],?_⟩
    simp only[b23l2,sceneL,List.map_cons,List.map_nil]
    simp (maxSteps:=1000000) (disch:=first|omega|assumption|decide +kernel|(simp;done)|(simp;omega)|fail) [hXl,g48,g80,hv]
   obtain⟨e,hB⟩:=B
   have hY:reachY t k o2 f (K,false) [x0,x1,x2]=((K2,false),true):=by unfold reachY;rw[if_neg (by rw[hw];simp),hK2]
   rw[hY]
   refine(yld_run (ps:=[35]) (A:=b23l1) (B:=b23l2) (env:=reachE L C i) (ex:= .normal) (st:= .busy) (p:=none) (s3:=X K2.1 false) (by rw[top];rfl) rfl (e1:=[(3, .ptr L 48 0),(4, .ptr L 64 0),(5, .ptr L 80 0),(6, .ptr L 96 0),(9, .ptr (X K.1 false).length 144 0),(25, .sl .no 1 (es cInt C)),(26,i64 C.length),(27,i64 (i:Nat))]) (fr1:=[(144, .cell (sceneL T' (o2:Nat) [x0,x1,x2]))]) ?_ (hlen _ _ _ _) (e2:=e) (fr2:=[(144, .cell (sceneL T' (o2:Nat) [x0,x1,x2]))]) ?_ (by rw[gX];rfl)).trans ?_
   ·rw[←hAl];simp[b23l1,bindEnv,reachE]
   ·rw[put]
    exact(congrArg (fun q=>Run T _ _ ([_]::q)) (hX K.1 false)).trans hB
   ·have:=hyr false K2.1 .ready none
    simp only[yldE,yldB,this];rfl
  ·have B: ∃e,Run T b23l2 [(3, .ptr L 48 0),(4, .ptr L 64 0),(5, .ptr L 80 0),(6, .ptr L 96 0),(9, .ptr (X K.1 false).length 144 0),(25, .sl .no 1 (es cInt C)),(26,i64 C.length),(27,i64 (i:Nat))] ([(144, .cell (sceneL T' (o2:Nat) [x0,x1,x2]))]::X K.1 false)=
    some (.ret,e,[(144, .cell (sceneL T' (o2:Nat) [x0,x1,x2]))]::X K2.1 true):=by
    refine⟨[(6, .ptr L 96 0)],?_⟩
    simp only[b23l2,sceneL,List.map_cons,List.map_nil]
    simp (maxSteps:=1000000) (disch:=first|omega|assumption|decide +kernel|(simp;done)|(simp;omega)|fail) [hXl,hXll,g48,g80,g96,hv,hpX]
   obtain⟨e,hB⟩:=B
   have hY:reachY t k o2 f (K,false) [x0,x1,x2]=((K2,true),false):=by unfold reachY;rw[if_pos hw,hK2]
   rw[hY]
   refine(yld_run (ps:=[35]) (A:=b23l1) (B:=b23l2) (env:=reachE L C i) (ex:= .ret) (st:= .busy) (p:=none) (s3:=X K2.1 true) (by rw[top];rfl) rfl (e1:=[(3, .ptr L 48 0),(4, .ptr L 64 0),(5, .ptr L 80 0),(6, .ptr L 96 0),(9, .ptr (X K.1 false).length 144 0),(25, .sl .no 1 (es cInt C)),(26,i64 C.length),(27,i64 (i:Nat))]) (fr1:=[(144, .cell (sceneL T' (o2:Nat) [x0,x1,x2]))]) ?_ (hlen _ _ _ _) (e2:=e) (fr2:=[(144, .cell (sceneL T' (o2:Nat) [x0,x1,x2]))]) ?_ (by rw[gX];rfl)).trans ?_
   ·rw[←hAl];simp[b23l1,bindEnv,reachE]
   ·rw[put]
    exact(congrArg (fun q=>Run T _ _ ([_]::q)) (hX K.1 false)).trans hB
   ·have:=hyr true K2.1 .done (some .ret)
    simp only[yldE,yldB,this];rfl
end Go.Proofs.YtbcjofkfgpbhmaaGreat

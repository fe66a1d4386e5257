/-
  Doors: the moves, one by one.
-/
import Derived.Test.YtmgkcipcjabigaaGreatDoorEq1
import Derived.Test.YtmgkcipcjabigaaGreatDoorAb8
set_option linter.unusedSimpArgs false
set_option linter.unusedVariables false
namespace Go.Proofs.YtmgkcipcjabigaaGreatDoor
open Go.Ab
abbrev sceneL(T o:Int)(n:List Int):List V:=i64 T::i64 o::n.map i64
def fromY {σ:Type}(Y:σ→List Int→σ×Bool):List (List Int)→Nat→List Int×σ→(List Int×σ)×Bool
 |[],_,p=>((p.1,(Y p.2 p.1).1),(Y p.2 p.1).2)
 |w::r,j,p=>foldB (fun p x=>fromY Y r (j+1) (p.1.set j x,p.2)) w p
def InN(t:DTrap)(n:List Int):Prop:=n.length=3∧ ∀i,i<t.groups.length→0≤n.getD i 0∧n.getD i 0≤t.chambers-1
structure YieldD(t:DTrap)(C:List Int)(m:V)(σ:Type)(d l db lb dg lg D:Nat)(T' o' T o:Int)(n0:List Int)(St:List Int→σ→Stk)(Y:σ→List Int→σ×Bool)(ok:σ→Prop):Prop where
 len: ∀n a,(St n a).length=D
 ltd:d<D
 ltb:db<D
 ltg:dg<D
 gbox: ∀n a,sget (St n a) db lb=some (.cell [.ptr dg lg 0])
 game: ∀n a,sget (St n a) dg lg=some (.cell (gameV t C m))
 next: ∀n a,sget (St n a) db (lb+1000)=some (.cell (sceneL T o n))
 scene: ∀n a,sget (St n a) db (lb+2000)=some (.cell (sceneL T' o' n0))
 put: ∀n n' a,sput (St n a) db (lb+1000) (.cell (sceneL T o n'))=St n' a
 yield: ∀(fr:Stk) n a lab,InN t n→ok a→denV Go.Proofs.YtmgkcipcjabigaaGreatDoor.T (.yld d l) [.agg (sceneL T o n)] lab (fr ++St n a)=some (.bool (Y a n).2,fr ++St n (Y a n).1)
 keep: ∀n a,InN t n→ok a→(Y a n).2=true→ok (Y a n).1
def movesFrame(d l db lb D:Nat):Ab.Loc:=[(64, .cell [.yld d l]),(80, .cell [.fn 63 [] [.ptr db lb 0, .ptr D 64 0, .ptr db (lb+1000) 0, .ptr db (lb+2000) 0, .ptr D 80 0]])]
theorem sget_append(d l:Nat): ∀(fr S:Stk),d<S.length→sget (fr ++S) d l=sget S d l
 |[],_,_=>rfl
 |x::fr,S,h=>by
   rw[List.cons_append,sget_cons,if_neg (by simp;omega)]
   exact sget_append d l fr S h
theorem sput_append(d l:Nat)(x:Entry): ∀(fr S:Stk),d<S.length→sput (fr ++S) d l x=fr ++sput S d l x
 |[],_,_=>rfl
 |y::fr,S,h=>by
   rw[List.cons_append,sput_cons,if_neg (by simp;omega),sput_append d l x fr S h];rfl
theorem waysS_len {n:Nat} {gs:List DGate} {p:Int}:(waysS n gs p).length≤n+1:=by
 unfold waysS
 dsimp only
 split
 ·simp
 ·have:=List.length_filter_le (wayB gs p) (rangeI n)
  simp only[rangeI,List.length_map,List.length_range]at this⊢;omega
theorem foldB_inv {α σ:Type} {f:σ→α→σ×Bool} {I:σ→Prop}: ∀ {l:List α} {a:σ},(∀a x,x∈l→I a→I (f a x).1)→I a→I (foldB f l a).1
 |[],_,_,h=>h
 |x::l,a,hs,h=>by
   simp only[foldB]
   split
   ·exact foldB_inv (fun a y hy=>hs a y (by simp[hy])) (hs a x (by simp) h)
   ·exact hs a x (by simp) h
theorem fromY_keep {σ:Type}(Y:σ→List Int→σ×Bool): ∀(W:List (List Int)) (j:Nat) (p:List Int×σ),(fromY Y W j p).1.1.length=p.1.length∧ ∀i,i<j→(fromY Y W j p).1.1.getD i 0=p.1.getD i 0
 |[],j,p=>⟨rfl,fun _ _=>rfl⟩
 |w::W,j,p=>by
   simp only[fromY]
   refine foldB_inv (I:=fun q:List Int×σ=>q.1.length=p.1.length∧ ∀i,i<j→q.1.getD i 0=p.1.getD i 0) (fun q x _ hq=> ?_) ⟨rfl,fun _ _=>rfl⟩
   obtain⟨h1,h2⟩:=fromY_keep Y W (j+1) (q.1.set j x,q.2)
   refine⟨by rw[h1,List.length_set,hq.1],fun i hi=> ?_⟩
   rw[h2 i (by omega),←hq.2 i hi]
   simp only[List.getD,List.getElem?_set,show¬j=i by omega,if_false]
theorem foldB_inv2 {α σ:Type} {f:σ→α→σ×Bool} {I:σ→Prop}: ∀ {l:List α} {a:σ},(∀a x,x∈l→I a→(f a x).2=true→I (f a x).1)→I a→(foldB f l a).2=true→I (foldB f l a).1
 |[],_,_,h,_=>h
 |x::l,a,hs,h,hb=>by
   simp only[foldB]at hb⊢
   split at hb
   ·rename_i h1
    rw[if_pos h1]
    exact foldB_inv2 (fun a y hy=>hs a y (by simp[hy])) (hs a x (by simp) h h1) hb
   ·rename_i h1
    rw[if_neg h1]
    exact absurd hb h1
set_option maxHeartbeats 8000000 in
theorem e_fromD(t:DTrap)(hch:t.chambers≤4)(hl:t.gates.length≤5)(ho3:t.groups.length≤3)(hg: ∀g∈t.gates,(0≤g.a∧g.a≤t.chambers-1)∧(0≤g.b∧g.b≤t.chambers-1)∧g.a≠g.b) {C:List Int} {m:V} {σ:Type} {d l db lb dg lg D:Nat} {T' o' T1:Int} {o:Nat}(ho:o<32) {n0:List Int}(hn0:InN t n0)
 {St:List Int→σ→Stk} {Y:σ→List Int→σ×Bool} {ok:σ→Prop} (y:YieldD t C m σ d l db lb dg lg D T' o' T1 (o:Nat) n0 St Y ok):
 ∀(W:List (List Int)) (j:Nat),j+W.length=t.groups.length→W=((n0.take t.groups.length).drop j).map (waysS t.chambers.toNat (openG o t.gates))→ ∀(n:List Int),n.length=3→(∀i,i<j→0≤n.getD i 0∧n.getD i 0≤t.chambers-1)→ ∀(fr:Stk) (a:σ),ok a→((fromY Y W j (n,a)).2=true→ok (fromY Y W j (n,a)).1.2)∧ ∀(lab:Nat),
  den T 63 [i64 (j:Nat), .ptr db lb 0, .ptr D 64 0, .ptr db (lb+1000) 0, .ptr db (lb+2000) 0, .ptr D 80 0] lab (fr ++movesFrame d l db lb D::St n a)=
   some (.bool (fromY Y W j (n,a)).2,fr ++movesFrame d l db lb D::St (fromY Y W j (n,a)).1.1 (fromY Y W j (n,a)).1.2):=by
 have hlt:=y.ltd
 have hltb:=y.ltb
 have hltg:=y.ltg
 have facts: ∀(fr:Stk) (n:List Int) (a:σ),sget (fr ++movesFrame d l db lb D::St n a) D 64=some (.cell [.yld d l])∧
  sget (fr ++movesFrame d l db lb D::St n a) D 80=some (.cell [.fn 63 [] [.ptr db lb 0, .ptr D 64 0, .ptr db (lb+1000) 0, .ptr db (lb+2000) 0, .ptr D 80 0]])∧
  sget (fr ++movesFrame d l db lb D::St n a) db lb=some (.cell [.ptr dg lg 0])∧sget (fr ++movesFrame d l db lb D::St n a) dg lg=some (.cell (gameV t C m))∧
  sget (fr ++movesFrame d l db lb D::St n a) db (lb+1000)=some (.cell (sceneL T1 (o:Nat) n))∧sget (fr ++movesFrame d l db lb D::St n a) db (lb+2000)=some (.cell (sceneL T' o' n0))∧
  (∀n',sput (fr ++movesFrame d l db lb D::St n a) db (lb+1000) (.cell (sceneL T1 (o:Nat) n'))=fr ++movesFrame d l db lb D::St n' a)∧
  D<(fr ++movesFrame d l db lb D::St n a).length:=by
  intro fr n a
  have hln:=y.len n a
  have g: ∀l',sget (fr ++movesFrame d l db lb D::St n a) D l'=(movesFrame d l db lb D).get l':=fun l'=>by
   rw[sget_append _ _ _ _ (by simp only[List.length_cons];omega),←hln,sget_top]
  have low: ∀d' l',d'<D→sget (fr ++movesFrame d l db lb D::St n a) d' l'=sget (St n a) d' l':=fun d' l' hd=>by
   rw[show fr ++movesFrame d l db lb D::St n a=(fr ++[movesFrame d l db lb D]) ++St n a by simp,sget_append _ _ _ _ (by omega)]
  refine⟨by rw[g];rfl,by rw[g];rfl,by rw[low _ _ hltb,y.gbox],by rw[low _ _ hltg,y.game],by rw[low _ _ hltb,y.next],by rw[low _ _ hltb,y.scene],fun n'=> ?_,?_⟩
  ·rw[show fr ++movesFrame d l db lb D::St n a=(fr ++[movesFrame d l db lb D]) ++St n a by simp,sput_append _ _ _ _ _ (by omega),y.put];simp
  ·simp only[List.length_append,List.length_cons];omega
 intro W
 induction W with
 |nil=>
   intro j hj hW n hn hin fr a hok
   refine⟨fun hb=>y.keep n a ⟨hn,fun i hi=>hin i (by simp at hj;omega)⟩ hok hb,fun lab=> ?_⟩
   obtain⟨h64,h80,hgb,hga,hnx,hsc,hput,hD⟩:=facts fr n a
   have hyy:=y.yield ([]::(fr ++[movesFrame d l db lb D])) n a
   simp only[List.cons_append,List.append_assoc,List.nil_append]at hyy
   have hy2:=fun lab=>hyy lab ⟨hn,fun i hi=>hin i (by simp at hj;omega)⟩ hok
   have hj2:(j:Int)=t.groups.length:=by simp at hj;omega
   simp only[fromY]
   generalize Y a n=q at hy2⊢
   obtain⟨a',bb⟩:=q
   obtain⟨x0,x1,x2,rfl⟩: ∃x0 x1 x2,n=[x0,x1,x2]:=by
    match n,hn with
    |[x0,x1,x2],_=>exact⟨x0,x1,x2,rfl⟩
   generalize fr ++movesFrame d l db lb D::St [x0,x1,x2] a=X at*
   generalize fr ++movesFrame d l db lb D::St [x0,x1,x2] a'=X' at*
   have e1: ¬D=X.length:=by omega
   have e2: ¬db=X.length:=by omega
   have e3: ¬dg=X.length:=by omega
   have e4: ¬d=X.length:=by omega
   simp only[sceneL,List.map_cons,List.map_nil]at hy2 hnx hsc
   rw[den_fn t63 _ _ _ rfl]
   simp only[b63]
   simp (maxSteps:=1000000) (disch:=first|omega|assumption|decide +kernel|(simp;done)|(simp;omega)|fail) [h64,hgb,hga,hnx,hsc,e1,e2,e3,e4,hy2,hj2]
 |cons w W ih=>
   intro j hj hW n hn hin fr a hok
   have hjl:j<t.groups.length:=by simp at hj;omega
   have hj3:j<3:=by omega
   obtain⟨hn0l,hn0r⟩:=hn0
   have htl:(n0.take t.groups.length).length=t.groups.length:=by simp;omega
   have hdrop:(n0.take t.groups.length).drop j=n0.getD j 0::(n0.take t.groups.length).drop (j+1):=by
    rw[List.drop_eq_getElem_cons (by omega)]
    congr 1
    simp[List.getD,show j<n0.length by omega]
   rw[hdrop,List.map_cons]at hW
   simp only[List.cons.injEq]at hW
   obtain⟨hw,hW'⟩:=hW
   have hwr: ∀x,x∈w→0≤x∧x≤t.chambers-1:=fun x hx=>by
    rw[hw]at hx
    have h1:=hn0r j hjl
    have:=waysS_range (by omega) hx
    omega
   have hch0:=hn0r j hjl
   have hwl:w.length<1000000:=by
    rw[hw]
    have:=waysS_len (n:=t.chambers.toNat) (gs:=openG o t.gates) (p:=n0.getD j 0)
    have h4:=hch
    omega
   obtain⟨X,hX⟩: ∃X:List Int→σ→Stk,∀n a,fr ++movesFrame d l db lb D::St n a=X n a:=⟨_,fun _ _=>rfl⟩
   have fx: ∀(n:List Int) (a:σ),sget (X n a) D 64=some (.cell [.yld d l])∧
    sget (X n a) D 80=some (.cell [.fn 63 [] [.ptr db lb 0, .ptr D 64 0, .ptr db (lb+1000) 0, .ptr db (lb+2000) 0, .ptr D 80 0]])∧
    sget (X n a) db lb=some (.cell [.ptr dg lg 0])∧sget (X n a) dg lg=some (.cell (gameV t C m))∧
    sget (X n a) db (lb+1000)=some (.cell (sceneL T1 (o:Nat) n))∧sget (X n a) db (lb+2000)=some (.cell (sceneL T' o' n0))∧
    (∀n',sput (X n a) db (lb+1000) (.cell (sceneL T1 (o:Nat) n'))=X n' a)∧D<(X n a).length:=fun n a=>by
    have:=facts fr n a;simp only[hX]at this;exact this
   have hI:=fun(n':List Int) (h3:n'.length=3) (hr: ∀i,i<j+1→0≤n'.getD i 0∧n'.getD i 0≤t.chambers-1) a' (ha:ok a')=>ih (j+1) (by simp at hj;omega) hW' n' h3 hr ([]::fr) a' ha
   simp only[List.cons_append,hX]at hI
   have hokW:(fromY Y (w::W) j (n,a)).2=true→ok (fromY Y (w::W) j (n,a)).1.2:=fun hb=>by
    simp only[fromY]at hb⊢
    refine(foldB_inv2 (I:=fun p:List Int×σ=>p.1.length=3∧(∀i,i<j→0≤p.1.getD i 0∧p.1.getD i 0≤t.chambers-1)∧ok p.2) (fun p x hx hp hpb=> ?_) ⟨hn,hin,hok⟩ hb).2.2
    obtain⟨p1,p2⟩:=p
    obtain⟨q1,q2,q3⟩:=hp
    simp only at q1 q2 q3 hpb⊢
    have hkw:=hwr _ hx
    have hset:(p1.set j x).length=3:=by rw[List.length_set,q1]
    have hst2: ∀i,i<j+1→0≤(p1.set j x).getD i 0∧(p1.set j x).getD i 0≤t.chambers-1:=fun i hi=>by
     by_cases e:i=j
     ·subst e
      simp only[List.getD,List.getElem?_set,if_true,show i<p1.length by omega]
      exact hkw
     ·have:=q2 i (by omega)
      simp only[List.getD,List.getElem?_set,show¬j=i by omega,if_false]at this⊢
      exact this
    have hkeep:=fromY_keep Y W (j+1) (p1.set j x,p2)
    simp only at hkeep
    refine⟨by rw[hkeep.1];exact hset,fun i hi=> ?_,(ih (j+1) (by simp at hj;omega) hW' _ hset hst2 [] p2 q3).1 hpb⟩
    rw[hkeep.2 i (by omega)]
    exact hst2 i (by omega)
   refine⟨hokW,fun lab=> ?_⟩
   rw[hX,hX]
   have hne: ¬(j:Int)=t.groups.length:=by omega
   have hway:=fun n a lab=>e_ways t hl hg C m o ho (n0.getD j 0) dg lg ([]::X n a) (by have:=(fx n a).2.2.2.2.2.2.2;simp;omega) (by rw[sget_cons,if_neg (by have:=(fx n a).2.2.2.2.2.2.2;omega)];exact(fx n a).2.2.2.1) lab
   rw[←hw]at hway
   obtain⟨z0,z1,z2,hz⟩: ∃x0 x1 x2,n0=[x0,x1,x2]:=by
    match n0,hn0l with
    |[x0,x1,x2],_=>exact⟨x0,x1,x2,rfl⟩
   have key:=fun p0 (hp0:p0.1.length=3∧(∀i,i<j→0≤p0.1.getD i 0∧p0.1.getD i 0≤t.chambers-1)∧ok p0.2)=>loop_list_e (T:=Go.Proofs.YtmgkcipcjabigaaGreatDoor.T) (live:=[0,3,5,26,27,28]) (keep:=[288,416]) (b:=d63l0) w
    (fun _ (p:List Int×σ)=>p.1.length=3∧(∀i,i<j→0≤p.1.getD i 0∧p.1.getD i 0≤t.chambers-1)∧ok p.2)
    (fun k _=>[(0,i64 (j:Nat)),(3, .ptr db (lb+1000) 0),(5, .ptr D 80 0),(26, .sl .no 1 (es cInt w)),(27,i64 w.length),(28,i64 (k:Nat))]) (fun _ p=>[]::X p.1 p.2)
    (fun p x=>fromY Y W (j+1) (p.1.set j x,p.2))
    (fun(g:Ab.Loc) p=>(.ret,[(7, .bool false)],g::X p.1 p.2)) (fun p=>(.exit 0,[(0,i64 (j:Nat)),(3, .ptr db (lb+1000) 0),(5, .ptr D 80 0),(26, .sl .no 1 (es cInt w)),(27,i64 w.length),(28,i64 w.length),(29, .bool false)],[]::X p.1 p.2))
    (by simp) (by simp) ?_ ?_ p0 hp0 [(0,i64 (j:Nat)),(3, .ptr db (lb+1000) 0),(5, .ptr D 80 0),(26, .sl .no 1 (es cInt w)),(27,i64 w.length),(28,i64 0)] ([]::X p0.1 p0.2) (by have:=(fx p0.1 p0.2).2.2.2.2.2.2.2;simp[show¬D=(X p0.1 p0.2).length by omega,show¬db=(X p0.1 p0.2).length by omega]) (by simp)
   ·obtain⟨g,hgk⟩:=key (n,a) ⟨hn,hin,hok⟩
    change Run Go.Proofs.YtmgkcipcjabigaaGreatDoor.T b63l0 _ _=_ at hgk
    simp only[fromY]
    generalize foldB (fun p x=>fromY Y W (j+1) (p.1.set j x,p.2)) w (n,a)=q at hgk
    obtain⟨⟨n',a'⟩,bb⟩:=q
    obtain⟨h64,h80,hgb,hga,hnx,hsc,hput,hD⟩:=fx n a
    have e1: ¬D=(X n a).length:=by omega
    have e2: ¬db=(X n a).length:=by omega
    have e3: ¬dg=(X n a).length:=by omega
    have hw2:=hway n a
    subst hz
    simp only[sceneL,List.map_cons,List.map_nil]at hsc hnx
    rw[den_fn t63 _ _ _ rfl]
    simp only[b63]
    obtain rfl|rfl|rfl:j=0∨j=1∨j=2:=by omega
    ·skip
     simp only[List.getD_cons_zero]at hw2
     have hne2: ¬(0:Int)=t.groups.length:=by omega
     change Run _ _ [(0,i64 0),_,_,_,_,_] _=_ at hgk
     cases bb<;>simp (maxSteps:=1000000) (disch:=first|omega|assumption|decide +kernel|(simp;done)|(simp;omega)|fail) [run_drawnK,orSlow_none,h64,hgb,hga,hnx,hsc,e1,e2,e3,hne2,hw2,hgk]
    ·skip
     simp only[List.getD_cons_succ,List.getD_cons_zero]at hw2
     have hne2: ¬(1:Int)=t.groups.length:=by omega
     change Run _ _ [(0,i64 1),_,_,_,_,_] _=_ at hgk
     cases bb<;>simp (maxSteps:=1000000) (disch:=first|omega|assumption|decide +kernel|(simp;done)|(simp;omega)|fail) [run_drawnK,orSlow_none,h64,hgb,hga,hnx,hsc,e1,e2,e3,hne2,hw2,hgk]
    ·skip
     simp only[List.getD_cons_succ,List.getD_cons_zero]at hw2
     have hne2: ¬(2:Int)=t.groups.length:=by omega
     change Run _ _ [(0,i64 2),_,_,_,_,_] _=_ at hgk
     cases bb<;>simp (maxSteps:=1000000) (disch:=first|omega|assumption|decide +kernel|(simp;done)|(simp;omega)|fail) [run_drawnK,orSlow_none,h64,hgb,hga,hnx,hsc,e1,e2,e3,hne2,hw2,hgk]
   ·intro k p hk hp
    obtain⟨p1,p2⟩:=p
    obtain⟨q1,q2,q3⟩:=hp
    simp only at q1 q2 q3
    have hk2:(k:Int)<w.length:=by omega
    have hkw:=hwr _ (List.getElem_mem hk)
    have hset:(p1.set j w[k]).length=3:=by rw[List.length_set,q1]
    have hst2: ∀i,i<j+1→0≤(p1.set j w[k]).getD i 0∧(p1.set j w[k]).getD i 0≤t.chambers-1:=fun i hi=>by
     by_cases e:i=j
     ·subst e
      simp only[List.getD,List.getElem?_set,if_true,show i<p1.length by omega]
      exact hkw
     ·have:=q2 i (by omega)
      simp only[List.getD,List.getElem?_set,show¬j=i by omega,if_false]at this⊢
      exact this
    obtain⟨hi1,hi2⟩:=hI _ hset hst2 p2 q3
    have hkeep:=fromY_keep Y W (j+1) (p1.set j w[k],p2)
    simp only at hkeep
    obtain⟨h64,h80,hgb,hga,hnx,hsc,hput,hD⟩:=fx p1 p2
    have hD':=fun n a=>(fx n a).2.2.2.2.2.2.2
    have h80':=fun n a=>(fx n a).2.1
    have e1: ∀n a,¬D=(X n a).length:=fun n a=>by have:=hD' n a;omega
    have e2: ∀n a,¬db=(X n a).length:=fun n a=>by have:=hD' n a;omega
    have e3: ∀n a,¬dg=(X n a).length:=fun n a=>by have:=hD' n a;omega
    have hput':=hput (p1.set j w[k])
    obtain⟨x0,x1,x2,rfl⟩: ∃x0 x1 x2,p1=[x0,x1,x2]:=by
     match p1,q1 with
     |[x0,x1,x2],_=>exact⟨x0,x1,x2,rfl⟩
    generalize hx:w[k]=x at*
    simp only[sceneL,List.map_cons,List.map_nil]at hnx hput'
    have hI3: ∀q:(List Int×σ)×Bool,fromY Y W (j+1) ([x0,x1,x2].set j x,p2)=q→q.1.1.length=3∧(∀i,i<j→0≤q.1.1.getD i 0∧q.1.1.getD i 0≤t.chambers-1)∧(q.2=true→ok q.1.2):=fun q e=>by
     rw[e]at hkeep hi1
     refine⟨by rw[hkeep.1];exact hset,fun i hi=> ?_,hi1⟩
     rw[hkeep.2 i (by omega)]
     exact hst2 i (by omega)
    generalize fromY Y W (j+1) ([x0,x1,x2].set j x,p2)=q at*
    obtain⟨⟨n',a'⟩,bb⟩:=q
    have hI4:=hI3 _ rfl
    obtain rfl|rfl|rfl:j=0∨j=1∨j=2:=by omega
    ·skip
     simp only[List.set_cons_zero,List.map_cons,List.map_nil]at hi2 hput'
     change∀lab,den _ _ [i64 1,_,_,_,_,_] lab _=_ at hi2
     refine⟨fun hb=>⟨?_,hI4.1,hI4.2.1,hI4.2.2 hb⟩,fun hb=>⟨[],?_⟩⟩<;>simp only at hb<;>subst hb
     ·simp (maxSteps:=1000000) (disch:=first|omega|assumption|decide +kernel|(simp;done)|(simp;omega)|fail) [hk,hk2,hx,hnx,hput',h80',e1,e2,e3,hi2,wk k (by omega),wi]
     ·simp (maxSteps:=1000000) (disch:=first|omega|assumption|decide +kernel|(simp;done)|(simp;omega)|fail) [hk,hk2,hx,hnx,hput',h80',e1,e2,e3,hi2,wk k (by omega),wi]
    ·skip
     simp only[List.set_cons_zero,List.set_cons_succ,List.map_cons,List.map_nil]at hi2 hput'
     change∀lab,den _ _ [i64 2,_,_,_,_,_] lab _=_ at hi2
     refine⟨fun hb=>⟨?_,hI4.1,hI4.2.1,hI4.2.2 hb⟩,fun hb=>⟨[],?_⟩⟩<;>simp only at hb<;>subst hb
     ·simp (maxSteps:=1000000) (disch:=first|omega|assumption|decide +kernel|(simp;done)|(simp;omega)|fail) [hk,hk2,hx,hnx,hput',h80',e1,e2,e3,hi2,wk k (by omega),wi]
     ·simp (maxSteps:=1000000) (disch:=first|omega|assumption|decide +kernel|(simp;done)|(simp;omega)|fail) [hk,hk2,hx,hnx,hput',h80',e1,e2,e3,hi2,wk k (by omega),wi]
    ·skip
     simp only[List.set_cons_zero,List.set_cons_succ,List.map_cons,List.map_nil]at hi2 hput'
     change∀lab,den _ _ [i64 3,_,_,_,_,_] lab _=_ at hi2
     refine⟨fun hb=>⟨?_,hI4.1,hI4.2.1,hI4.2.2 hb⟩,fun hb=>⟨[],?_⟩⟩<;>simp only at hb<;>subst hb
     ·simp (maxSteps:=1000000) (disch:=first|omega|assumption|decide +kernel|(simp;done)|(simp;omega)|fail) [hk,hk2,hx,hnx,hput',h80',e1,e2,e3,hi2,wk k (by omega),wi]
     ·simp (maxSteps:=1000000) (disch:=first|omega|assumption|decide +kernel|(simp;done)|(simp;omega)|fail) [hk,hk2,hx,hnx,hput',h80',e1,e2,e3,hi2,wk k (by omega),wi]
   ·intro p hp
    simp
end Go.Proofs.YtmgkcipcjabigaaGreatDoor

/-
  Doors: the moves as a list; the program's moves.
-/
namespace Go.Proofs.YtmgkcipcjabigaaGreatDoor
open Go.Ab
theorem foldB_one {α σ:Type}(f:σ→α→σ×Bool)(x:α)(a:σ):foldB f [x] a=f a x:=by
 simp only[foldB]
 split
 ·rename_i h
  rw[←h]
 ·rfl
theorem foldB_map {α β σ:Type}(f:σ→β→σ×Bool)(g:α→β): ∀(l:List α) (a:σ),foldB f (l.map g) a=foldB (fun a x=>f a (g x)) l a
 |[],_=>rfl
 |x::l,a=>by simp only[List.map_cons,foldB,foldB_map f g l]
theorem set_take {n:List Int} {j:Nat} {x:Int}(h:j<n.length):(n.set j x).take (j+1)=n.take j ++[x]:=by
 apply List.ext_getElem?
 intro i
 rw[List.getElem?_take,List.getElem?_set,List.getElem?_append,List.length_take,Nat.min_eq_left (by omega)]
 by_cases h1:i<j
 ·rw[if_pos (by omega),if_neg (by omega),if_pos h1,List.getElem?_take,if_pos h1]
 ·rw[if_neg h1]
  by_cases h2:i=j
  ·subst h2;simp[h]
  ·rw[if_neg (by omega)]
   simp[show i-j≠0 by omega]
theorem set_drop {n:List Int} {j k:Nat} {x:Int}(h:j<k):(n.set j x).drop k=n.drop k:=by
 apply List.ext_getElem?
 intro i
 rw[List.getElem?_drop,List.getElem?_drop,List.getElem?_set,if_neg (by omega)]
theorem foldB_rel {α σ τ:Type} {f:σ→α→σ×Bool} {g:τ→α→τ×Bool}(R:σ→τ→Prop): ∀ {l:List α} {a:σ} {b:τ},(∀a b x,x∈l→R a b→R (f a x).1 (g b x).1∧(f a x).2=(g b x).2)→R a b→R (foldB f l a).1 (foldB g l b).1∧(foldB f l a).2=(foldB g l b).2
 |[],a,b,_,h=>⟨h,rfl⟩
 |x::l,a,b,hs,h=>by
   obtain⟨h1,h2⟩:=hs a b x (by simp) h
   simp only[foldB,h2]
   split
   ·exact foldB_rel R (fun a b y hy=>hs a b y (by simp[hy])) h1
   ·exact⟨h1,h2⟩
theorem fromY_fold {σ:Type}(Y:σ→List Int→σ×Bool): ∀(W:List (List Int)) (j:Nat) (p:List Int×σ),j+W.length≤p.1.length→
 ((fromY Y W j p).1.2=(foldB (fun s m=>Y s (p.1.take j ++m ++p.1.drop (j+W.length))) (movesS W) p.2).1∧(fromY Y W j p).2=(foldB (fun s m=>Y s (p.1.take j ++m ++p.1.drop (j+W.length))) (movesS W) p.2).2)∧
   (fromY Y W j p).1.1.length=p.1.length∧(fromY Y W j p).1.1.take j=p.1.take j∧(fromY Y W j p).1.1.drop (j+W.length)=p.1.drop (j+W.length)
 |[],j,p,h=>by
   simp only[fromY,movesS,foldB_one,List.length_nil,Nat.add_zero,List.append_nil,List.take_append_drop,and_self]
 |w::W,j,p,h=>by
   simp only[List.length_cons]at h
   simp only[fromY,movesS,List.length_cons]
   rw[foldB_flatMap]
   have key:=foldB_rel (f:=fun p x=>fromY Y W (j+1) (p.1.set j x,p.2)) (g:=fun a x=>foldB (fun s m=>Y s (p.1.take j ++m ++p.1.drop (j+(W.length+1)))) ((movesS W).map (x:: ·)) a)
    (fun(q:List Int×σ) (s:σ)=>q.2=s∧q.1.length=p.1.length∧q.1.take j=p.1.take j∧q.1.drop (j+(W.length+1))=p.1.drop (j+(W.length+1))) (l:=w) (a:=p) (b:=p.2) (fun q s x hx hq=> ?_) ⟨rfl,rfl,rfl,rfl⟩
   ·obtain⟨⟨k1,k2,k3,k4⟩,k5⟩:=key
    exact⟨⟨k1,k5⟩,k2,k3,k4⟩
   ·obtain⟨q1,q2⟩:=q
    obtain⟨rfl,h1,h2,h3⟩:=hq
    simp only at h1 h2 h3
    obtain⟨⟨k1,k2⟩,k3,k4,k5⟩:=fromY_fold Y W (j+1) (q1.set j x,q2) (by simp only[List.length_set];omega)
    simp only at k1 k2 k3 k4 k5
    have e1:(q1.set j x).take (j+1)=p.1.take j ++[x]:=by rw[set_take (by omega),h2]
    have e2:(q1.set j x).drop (j+1+W.length)=p.1.drop (j+(W.length+1)):=by rw[set_drop (by omega),←h3];congr 1;omega
    have e3:(fun(s:σ) (m:List Int)=>Y s ((q1.set j x).take (j+1) ++m ++(q1.set j x).drop (j+1+W.length)))=fun s m=>Y s (p.1.take j ++x::m ++p.1.drop (j+(W.length+1))):=by
     funext s m
     rw[e1,e2]
     simp
    rw[e3]at k1 k2
    rw[foldB_map]
    refine⟨⟨k1,by rw[k3,List.length_set,h1],?_,?_⟩,k2⟩
    ·have:=congrArg (List.take j) k4
     rw[List.take_take,Nat.min_eq_left (by omega),e1,List.take_append_of_le_length (by simp;omega),List.take_take,Nat.min_self]at this
     exact this
    ·rw[e2,show j+1+W.length=j+(W.length+1)by omega]at k5
     exact k5
theorem fromY_all {σ:Type}(Y:σ→List Int→σ×Bool)(W:List (List Int))(n:List Int)(a:σ)(h:W.length≤n.length):
 (fromY Y W 0 (n,a)).1.2=(foldB (fun s m=>Y s (m ++n.drop W.length)) (movesS W) a).1∧(fromY Y W 0 (n,a)).2=(foldB (fun s m=>Y s (m ++n.drop W.length)) (movesS W) a).2∧(fromY Y W 0 (n,a)).1.1.length=n.length:=by
 obtain⟨⟨h1,h2⟩,h3,_⟩:=fromY_fold Y W 0 (n,a) (by simpa using h)
 simp only[List.take_zero,List.nil_append,Nat.zero_add]at h1 h2 h3
 exact⟨h1,h2,h3⟩
set_option maxHeartbeats 4000000 in
theorem e_moves(T1:Int)(o c:Nat)(hT:1≤T1∧T1≤4)(n0 n1 n2:Int)(ho:o<32)(hc:c<32)(d l:Nat)(lab)(loc:Ab.Loc)(s:Stk)(hd:d≤s.length)(k0:loc.get lab=none)(k1:loc.get (lab+1000)=none)(k2:loc.get (lab+2000)=none):
 den T 49 [.ptr d l 0, .agg (sceneL T1 (o:Nat) [n0,n1,n2]),i64 (c:Nat)] lab (loc::s)=
  some (.fn 62 [] [.ptr s.length lab 0, .ptr s.length (lab+1000) 0, .ptr s.length (lab+2000) 0],
   (Loc.put (Loc.put (Loc.put loc lab (.cell [.ptr d l 0])) (lab+1000) (.cell (sceneL (T1-1) (xorN o c:Nat) [n0,n1,n2]))) (lab+2000) (.cell (sceneL T1 (o:Nat) [n0,n1,n2])))::s):=by
 have hx:=bxor (a:=o) (b:=c) (by omega) (by omega)
 rw[den_fn t49 _ _ _ rfl]
 simp only[b49]
 simp only[sceneL,List.map_cons,List.map_nil]
 simp (maxSteps:=1000000) (disch:=first|omega|assumption|decide +kernel|(simp;done)|(simp;omega)|fail) [hx,wi,k0,k1,k2,newLab,idxOf,dedup,-bin_xor,show¬d=s.length+1 by omega]
end Go.Proofs.YtmgkcipcjabigaaGreatDoor

/-
  Doors: a loop over the moves.
-/
namespace Go.Proofs.YtmgkcipcjabigaaGreatDoor
open Go.Ab
abbrev movesO(t:DTrap)(o:Nat)(n:List Int):List (List Int):=movesS ((n.take t.groups.length).map (waysS t.chambers.toNat (openG o t.gates)))
abbrev foldD {σ:Type}(t:DTrap)(o:Nat)(n:List Int)(Y:σ→List Int→σ×Bool)(a:σ):σ×Bool:=foldB (fun s m=>Y s (m ++n.drop t.groups.length)) (movesO t o n) a
set_option maxHeartbeats 4000000 in
theorem e_loopD(t:DTrap)(h:DoorOk t) {C:List Int} {m:V} {σ:Type} {d l db lb dg lg D:Nat} {T' o' T1:Int} {o:Nat}(ho:o<32) {n0:List Int}(hn0:InN t n0)
 {St:List Int→σ→Stk} {Y:σ→List Int→σ×Bool} {ok:σ→Prop} (y:YieldD t C m σ d l db lb dg lg D T' o' T1 (o:Nat) n0 St Y ok) (a:σ) (ha:ok a):
 ∃n',n'.length=3∧ ∀lab,den T 62 [.yld d l, .ptr db lb 0, .ptr db (lb+1000) 0, .ptr db (lb+2000) 0] lab (St n0 a)=some (.tup [],St n' (foldD t o n0 Y a).1):=by
 have hW:((n0.take t.groups.length).map (waysS t.chambers.toNat (openG o t.gates))).length=t.groups.length:=by have:=h.ol;have:=hn0.1;simp;omega
 have hf:=fun lab=>(e_fromD t h.ch.2 h.gl h.ol h.gates ho hn0 y ((n0.take t.groups.length).map (waysS t.chambers.toNat (openG o t.gates))) 0 (by rw[hW];omega) (by simp) n0 hn0.1 (fun i hi=>absurd hi (by omega)) [] a ha).2 lab
 obtain⟨f1,f2,f3⟩:=fromY_all Y ((n0.take t.groups.length).map (waysS t.chambers.toNat (openG o t.gates))) n0 a (by rw[hW];have:=h.ol;have:=hn0.1;omega)
 rw[hW]at f1
 refine⟨(fromY Y ((n0.take t.groups.length).map (waysS t.chambers.toNat (openG o t.gates))) 0 (n0,a)).1.1,by rw[f3,hn0.1],fun lab=> ?_⟩
 rw[f1]at hf
 have hl:=y.len n0 a
 have h1:=y.ltd
 have h2:=y.ltb
 simp only[foldD]
 generalize fromY Y _ 0 (n0,a)=q at*
 generalize foldB _ _ a=r at*
 generalize St q.1.1 r.1=X' at*
 generalize St n0 a=X at*
 subst hl
 simp only[List.nil_append,movesFrame]at hf
 change∀lab,den _ _ [i64 0,_,_,_,_,_] lab _=_ at hf
 have e1: ¬d=X.length:=by omega
 have e2: ¬db=X.length:=by omega
 rw[den_fn t62 _ _ _ rfl]
 simp only[b62]
 simp (maxSteps:=1000000) (disch:=first|omega|assumption|decide +kernel|(simp;done)|(simp;omega)|fail) [e1,e2,hf]
end Go.Proofs.YtmgkcipcjabigaaGreatDoor

/-
  Doors: what is remembered; after.
-/
namespace Go.Proofs.YtmgkcipcjabigaaGreatDoor
open Go.Ab
theorem kvGet_put(k:List Int)(v:Int): ∀(kvs:List (List Int×Int)) (k2:List Int),kvGet (kvPut kvs k v) k2=if k2=k then some v else kvGet kvs k2
 |[],k2=>by simp[kvPut,kvGet]
 |x::r,k2=>by
   simp only[kvPut]
   by_cases h:k=x.1
   ·subst h
    rw[if_pos rfl]
    simp only[kvGet]
    split<;>rfl
   ·rw[if_neg h]
    simp only[kvGet]
    rw[kvGet_put k v r k2]
    by_cases h2:k2=x.1
    ·rw[if_pos h2,if_pos h2,if_neg (fun e=>h (e.symm.trans h2))]
    ·rw[if_neg h2,if_neg h2]
def Right(W:List Int→Int)(K:List (List Int×Int)):Prop:= ∀k v,kvGet K k=some v→v=W k
abbrev Mem(W:List Int→Int):= {K:List (List Int×Int)//Right W K}
def Mem.nil {W:List Int→Int}:Mem W:=⟨[],fun _ _ h=>by cases h⟩
def Mem.put {W:List Int→Int}(K:Mem W)(k:List Int):Mem W:=⟨kvPut K.1 k (W k),fun k2 v h=>by
 rw[kvGet_put]at h
 split at h
 ·rename_i e;cases h;rw[e]
 ·exact K.2 _ _ h⟩
structure GameD(t:DTrap)(C:List Int)(m:V)(dg lg dm lm L:Nat)(S:List (List Int×Int)→Stk):Prop where
 len: ∀K,(S K).length=L
 ltg:dg<L
 ltm:dm<L
 game: ∀K,sget (S K) dg lg=some (.cell (gameV t C m))
 mem: ∀K,sget (S K) dm lm=some (.mp (some 5) K)
 put: ∀K K',sput (S K) dm lm (.mp (some 5) K')=S K'
theorem GameD.push {t C m dg lg dm lm L S}(G:GameD t C m dg lg dm lm L S)(X:Stk):GameD t C m dg lg dm lm (X.length+L) (fun K=>X ++S K) where
 len:=fun K=>by rw[List.length_append,G.len]
 ltg:=by have:=G.ltg;omega
 ltm:=by have:=G.ltm;omega
 game:=fun K=>by rw[sget_append _ _ _ _ (by rw[G.len];exact G.ltg),G.game]
 mem:=fun K=>by rw[sget_append _ _ _ _ (by rw[G.len];exact G.ltm),G.mem]
 put:=fun K K'=>by rw[sput_append _ _ _ _ _ (by rw[G.len];exact G.ltm),G.put]
def wO(t:DTrap)(k o:Nat)(n:List Int):Int:=worthS t.chambers.toNat t.hands.toNat (fishL t) k (openG o t.gates) (n.take t.groups.length)
def lO(t:DTrap)(k o:Nat)(n:List Int):Int:=leastS t.chambers.toNat t.hands.toNat (fishL t) k (openG o t.gates) (n.take t.groups.length)
def wKey(t:DTrap):List Int→Int
 |[k,o,a,b,c]=>wO t k.toNat o.toNat [a,b,c]
 |_=>0
abbrev MemW(t:DTrap):=Mem (wKey t)
theorem wO_range {t:DTrap}(h:DoorOk t)(k o n):0≤wO t k o n∧wO t k o n≤297:=by
 have hf: ∀f∈fishL t,0≤f∧f≤99:=fun f hf=>by
  obtain⟨g,hg,rfl⟩:=List.mem_map.1 hf
  exact(h.groups g hg).2
 have h1:=worthS_nonneg (n:=t.chambers.toNat) (h:=t.hands.toNat) (fun f hx=>(hf f hx).1) k (openG o t.gates) (n.take t.groups.length)
 have h2:=worthS_le (n:=t.chambers.toNat) (h:=t.hands.toNat) (fun f hx=>(hf f hx).1) k (openG o t.gates) (n.take t.groups.length)
 have key: ∀l:List Int,(∀f∈l,0≤f∧f≤99)→sumF l≤99*l.length:=by
  intro l
  induction l with
  |nil=>intro _;simp[sumF]
  |cons x r ih=>
    intro hh
    have:=ih fun f hf=>hh f (by simp[hf])
    have:=hh x (by simp)
    simp only[sumF,List.foldr_cons,List.length_cons]at*
    omega
 have h3:=key _ hf
 have h4:(fishL t).length≤3:=by simpa [fishL]using h.ol
 unfold wO
 omega
def ValD(t:DTrap)(C:List Int)(k:Nat)(f:Nat→List Int→MemW t→MemW t):Prop:= ∀ {m:V} {dg lg dm lm L:Nat} {S:List (List Int×Int)→Stk},GameD t C m dg lg dm lm L S→gmp m= .mp (.ptr dm lm 0)→
 ∀(o:Nat) (n:List Int) (K:MemW t) (lab:Nat),o<32→InN t n→den T 27 [.ptr dg lg 0, .agg (sceneL (k:Nat) (o:Nat) n)] lab (S K.1)=some (i64 (wO t k o n),S (f o n K).1)
def minY(a x:Int):Int:=if a<0∨x<a then x else a
def aftY(t:DTrap)(k o:Nat)(f:Nat→List Int→MemW t→MemW t)(p:Int×MemW t)(m:List Int):Int×MemW t:=(minY p.1 (wO t k o m),f o m p.2)
def aftF(dg lg L:Nat)(T1:Int)(o o2:Nat)(n0 n:List Int)(x:LoopState)(least:Int):Ab.Loc:=
 [(48, .cell [.ptr dg lg 0]),(64, .cell (sceneL T1 (o:Nat) n0)),(112, .cell [i64 least]),(208, .cell [.ptr dg lg 0]),(1208, .cell (sceneL (T1-1) (o2:Nat) n)),(2208, .cell (sceneL T1 (o:Nat) n0)),
  (12295, .loop [14] b48l0 b48l1 [(3, .ptr L 48 0),(7, .ptr L 112 0),(13, .fn 62 [] [.ptr L 208 0, .ptr L 1208 0, .ptr L 2208 0])] x none)]
set_option maxHeartbeats 4000000 in
theorem after_yield(t:DTrap)(h:DoorOk t)(C:List Int)(k:Nat)(f)(hf:ValD t C k f) {m:V} {dg lg dm lm L:Nat} {S:List (List Int×Int)→Stk}(G:GameD t C m dg lg dm lm L S)(hm:gmp m= .mp (.ptr dm lm 0))
 (T1:Int) (hk:T1-1=(k:Nat)) (o o2:Nat) (ho2:o2<32) (n0:List Int):
 YieldD t C m (Int×MemW t) L 12295 L 208 dg lg (L+1) T1 (o:Nat) (T1-1) (o2:Nat) n0 (fun n a=>aftF dg lg L T1 o o2 n0 n .ready a.1::S a.2.1) (fun a m=>(aftY t k o2 f a m,true)) (fun _=>True) where
 len:=fun n a=>by simp[G.len]
 ltd:=by omega
 ltb:=by omega
 ltg:=by have:=G.ltg;omega
 gbox:=fun n a=>by rw[←G.len a.2.1,sget_top];rfl
 game:=fun n a=>by rw[sget_cons,if_neg (by rw[G.len];have:=G.ltg;omega),G.game]
 next:=fun n a=>by rw[←G.len a.2.1,sget_top];rfl
 scene:=fun n a=>by rw[←G.len a.2.1,sget_top];rfl
 put:=fun n n' a=>by
  have e:=G.len a.2.1
  rw[show sput (aftF dg lg L T1 o o2 n0 n .ready a.1::S a.2.1) L (208+1000) (.cell (sceneL (T1-1) (o2:Nat) n'))=sput (aftF dg lg L T1 o o2 n0 n .ready a.1::S a.2.1) (S a.2.1).length (208+1000) (.cell (sceneL (T1-1) (o2:Nat) n'))by rw[e],sput_top];rfl
 keep:=fun _ _ _ _ _=>trivial
 yield:=fun fr n a lab hn _=>by
  obtain⟨a,K⟩:=a
  have hL:=G.len K.1
  have top: ∀(x:LoopState) a (K:MemW t) l',sget (fr ++aftF dg lg L T1 o o2 n0 n x a::S K.1) L l'=(aftF dg lg L T1 o o2 n0 n x a).get l':=fun x a K l'=>by
   rw[sget_append _ _ _ _ (by simp[G.len]),←G.len K.1,sget_top]
  have put: ∀(x:LoopState) a (K:MemW t) l' en,sput (fr ++aftF dg lg L T1 o o2 n0 n x a::S K.1) L l' en=fr ++(aftF dg lg L T1 o o2 n0 n x a).put l' en::S K.1:=fun x a K l' en=>by
   rw[sput_append _ _ _ _ _ (by simp[G.len])]
   rw[show sput (aftF dg lg L T1 o o2 n0 n x a::S K.1) L l' en=sput (aftF dg lg L T1 o o2 n0 n x a::S K.1) (S K.1).length l' en by rw[G.len],sput_top]
  have hlen: ∀(x:LoopState) a (K:MemW t),L<(fr ++aftF dg lg L T1 o o2 n0 n x a::S K.1).length:=fun x a K=>by simp[G.len];omega
  have hlen2: ∀(x:LoopState) a (K:MemW t),¬L=(fr ++aftF dg lg L T1 o o2 n0 n x a::S K.1).length:=fun x a K=>by have:=hlen x a K;omega
  have hv:=fun lab=>hf (G.push ([(128, .cell (sceneL (T1-1) (o2:Nat) n))]::(fr ++[aftF dg lg L T1 o o2 n0 n .busy a]))) hm o2 n K lab ho2 hn
  rw[←hk]at hv
  simp only[List.cons_append,List.append_assoc,List.nil_append]at hv
  have hw:=wO_range h k o2 n
  obtain⟨x0,x1,x2,rfl⟩: ∃x0 x1 x2,n=[x0,x1,x2]:=by
   match n,hn.1 with
   |[x0,x1,x2],_=>exact⟨x0,x1,x2,rfl⟩
  have B: ∃e,Run T b48l1 [(3, .ptr L 48 0),(7, .ptr L 112 0),(8, .ptr (fr ++aftF dg lg L T1 o o2 n0 [x0,x1,x2] .busy a::S K.1).length 128 0)] ([(128, .cell (sceneL (T1-1) (o2:Nat) [x0,x1,x2]))]::(fr ++aftF dg lg L T1 o o2 n0 [x0,x1,x2] .busy a::S K.1))=
   some (.normal,e,[(128, .cell (sceneL (T1-1) (o2:Nat) [x0,x1,x2]))]::(fr ++aftF dg lg L T1 o o2 n0 [x0,x1,x2] .busy (minY a (wO t k o2 [x0,x1,x2]))::S (f o2 [x0,x1,x2] K).1)):=by
   have g48: ∀K:MemW t,sget (fr ++aftF dg lg L T1 o o2 n0 [x0,x1,x2] .busy a::S K.1) L 48=some (.cell [.ptr dg lg 0]):=fun K=>by rw[top];rfl
   have g112: ∀K:MemW t,sget (fr ++aftF dg lg L T1 o o2 n0 [x0,x1,x2] .busy a::S K.1) L 112=some (.cell [i64 a]):=fun K=>by rw[top];rfl
   have p112: ∀(K:MemW t) v,sput (fr ++aftF dg lg L T1 o o2 n0 [x0,x1,x2] .busy a::S K.1) L 112 (.cell [i64 v])=fr ++aftF dg lg L T1 o o2 n0 [x0,x1,x2] .busy v::S K.1:=fun K v=>by rw[put];rfl
   have hd:=G.ltg
   simp only[b48l1]
   obtain⟨X,hX⟩: ∃X:Int→MemW t→Stk,∀v (K:MemW t),fr ++aftF dg lg L T1 o o2 n0 [x0,x1,x2] .busy v::S K.1=X v K:=⟨_,fun _ _=>rfl⟩
   simp only[hX]at g48 g112 p112 hv⊢
   have hL2: ∀v K,¬L=(X v K).length:=fun v K=>by rw[←hX];exact hlen2 .busy v K
   unfold minY
   generalize wO t k o2 [x0,x1,x2]=w at*
   generalize f o2 [x0,x1,x2] K=K' at*
   simp only[sceneL,List.map_cons,List.map_nil]at hv⊢
   by_cases x0:a<0
   ·refine⟨[(7, .ptr L 112 0)],?_⟩
    simp (maxSteps:=1000000) (disch:=first|omega|assumption|decide +kernel|(simp;done)|(simp;omega)|fail) [g48,g112,p112,hL2,hv,x0]
   ·by_cases x1:w<a
    ·refine⟨[(7, .ptr L 112 0)],?_⟩
     simp (maxSteps:=1000000) (disch:=first|omega|assumption|decide +kernel|(simp;done)|(simp;omega)|fail) [g48,g112,p112,hL2,hv,x0,x1]
    ·refine⟨[(7, .ptr L 112 0),(9,i64 w),(24, .bool false)],?_⟩
     simp (maxSteps:=1000000) (disch:=first|omega|assumption|decide +kernel|(simp;done)|(simp;omega)|fail) [g48,g112,p112,hL2,hv,x0,x1]
  obtain⟨e,hB⟩:=B
  refine(yld_run (ps:=[14]) (A:=b48l0) (B:=b48l1) (env:=[(3, .ptr L 48 0),(7, .ptr L 112 0),(13, .fn 62 [] [.ptr L 208 0, .ptr L 1208 0, .ptr L 2208 0])]) (ex:= .normal) (st:= .busy) (p:=none)
   (s3:=fr ++aftF dg lg L T1 o o2 n0 [x0,x1,x2] .busy (minY a (wO t k o2 [x0,x1,x2]))::S (f o2 [x0,x1,x2] K).1) (by rw[top];rfl) rfl (e1:=[(3, .ptr L 48 0),(7, .ptr L 112 0),(8, .ptr (fr ++aftF dg lg L T1 o o2 n0 [x0,x1,x2] .ready a::S K.1).length 128 0)]) (fr1:=[(128, .cell (sceneL (T1-1) (o2:Nat) [x0,x1,x2]))]) ?_ (hlen _ _ _) (e2:=e) (fr2:=[(128, .cell (sceneL (T1-1) (o2:Nat) [x0,x1,x2]))]) ?_ (by rw[top];rfl)).trans ?_
  ·simp[b48l0,bindEnv]
  ·rw[put]
   rw[show(fr ++aftF dg lg L T1 o o2 n0 [x0,x1,x2] .busy a::S K.1).length=(fr ++aftF dg lg L T1 o o2 n0 [x0,x1,x2] .ready a::S K.1).length by simp]at hB
   exact hB
  ·rw[put];rfl
end Go.Proofs.YtmgkcipcjabigaaGreatDoor

/-
  Doors: after.
-/
namespace Go.Proofs.YtmgkcipcjabigaaGreatDoor
open Go.Ab
theorem foldB_true {α σ:Type}(f:σ→α→σ): ∀(l:List α) (a:σ),foldB (fun a x=>(f a x,true)) l a=(l.foldl f a,true)
 |[],_=>rfl
 |x::l,a=>by simp only[foldB,if_true,foldB_true f l,List.foldl_cons]
theorem minY_fold: ∀(l:List Int) (a:Int),0≤a→(∀x∈l,0≤x)→l.foldl minY a=minL (a::l)
 |[],a,_,_=>rfl
 |x::r,a,ha,h=>by
   have hx:=h x (by simp)
   rw[List.foldl_cons,minY_fold r _ (by unfold minY;split<;>omega) fun y hy=>h y (by simp[hy])]
   have e:minY a x=min a x:=by unfold minY;split<;>omega
   rw[e,minL_cons,minL_cons,if_neg (List.cons_ne_nil x r),minL_cons]
   split
   ·rfl
   ·omega
theorem minY_all {l:List Int}(hl:l≠[])(h: ∀x∈l,0≤x):l.foldl minY (-1)=minL l:=by
 cases l with
 |nil=>exact absurd rfl hl
 |cons x r=>
   have hx:=h x (by simp)
   rw[List.foldl_cons,show minY (-1) x=x by simp[minY],minY_fold r x hx fun y hy=>h y (by simp[hy])]
def aftK(t:DTrap)(f:Nat→List Int→MemW t→MemW t)(o:Nat)(n:List Int)(K:MemW t):MemW t:=(movesO t o n).foldl (fun K m=>f o (m ++n.drop t.groups.length) K) K
theorem moves_len {t:DTrap}(h:DoorOk t) {o:Nat} {n m:List Int}(hn:InN t n)(hm:m∈movesO t o n):m.length=t.groups.length:=by
 have:=(mem_moves.1 hm).1
 rw[List.length_take,hn.1]at this
 have:=h.ol
 omega
theorem moves_take {t:DTrap}(h:DoorOk t) {o:Nat} {n m:List Int}(hn:InN t n)(hm:m∈movesO t o n):(m ++n.drop t.groups.length).take t.groups.length=m:=by
 have hl:=moves_len h hn hm
 rw[List.take_append_of_le_length (by omega),List.take_of_length_le (by omega)]
theorem fold_pair {α σ τ:Type}(f:σ→α→σ)(g:τ→α→τ): ∀(l:List α) (a:σ) (b:τ),l.foldl (fun(p:σ×τ) x=>(f p.1 x,g p.2 x)) (a,b)=(l.foldl f a,l.foldl g b)
 |[],_,_=>rfl
 |x::l,a,b=>by simp only[List.foldl_cons,fold_pair f g l]
theorem after_fold {t:DTrap}(h:DoorOk t)(k o:Nat)(f:Nat→List Int→MemW t→MemW t) {n:List Int}(hn:InN t n)(K:MemW t):
 foldD t o n (fun a m=>(aftY t k o f a m,true)) (-1,K)=((lO t k o n,aftK t f o n K),true):=by
 unfold foldD
 rw[foldB_true (fun a m=>aftY t k o f a (m ++n.drop t.groups.length))]
 unfold aftY
 rw[fold_pair (fun a m=>minY a (wO t k o (m ++n.drop t.groups.length))) (fun K m=>f o (m ++n.drop t.groups.length) K)]
 congr 2
 rw[←List.foldl_map (f:=fun m=>wO t k o (m ++n.drop t.groups.length)) (g:=minY)]
 have e:(movesO t o n).map (fun m=>wO t k o (m ++n.drop t.groups.length))=(movesO t o n).map (worthS t.chambers.toNat t.hands.toNat (fishL t) k (openG o t.gates)):=by
  apply List.map_congr_left
  intro m hm
  unfold wO
  rw[moves_take h hn hm]
 rw[e,minY_all (by simpa using moves_ne _ _ _)]
 ·rfl
 ·intro x hx
  obtain⟨m,hm,rfl⟩:=List.mem_map.1 hx
  refine worthS_nonneg (fun f hf=> ?_) _ _ _
  obtain⟨g,hg,rfl⟩:=List.mem_map.1 hf
  exact(h.groups g hg).2.1
set_option maxHeartbeats 4000000 in
theorem e_after {t:DTrap}(h:DoorOk t) {C:List Int} {k:Nat}(hk:k<4) {f}(hf:ValD t C k f) {m:V} {dg lg dm lm L:Nat} {S:List (List Int×Int)→Stk}(G:GameD t C m dg lg dm lm L S)(hmm:gmp m= .mp (.ptr dm lm 0))
 (o c:Nat) (ho:o<32) (hc:c<32) {n:List Int} (hn:InN t n) (K:MemW t) (lab):
 den T 48 [.ptr dg lg 0, .agg (sceneL ((k+1:Nat):Int) (o:Nat) n),i64 (c:Nat)] lab (S K.1)=some (i64 (lO t k (xorN o c) n),S (aftK t f (xorN o c) n K).1):=by
 have ho2:xorN o c<32:=Nat.xor_lt_two_pow (n:=5) ho hc
 have hkk:((k+1:Nat):Int)-1=(k:Nat):=by omega
 have y:=after_yield t h C k f hf G hmm ((k+1:Nat):Int) hkk o (xorN o c) ho2 n
 rw[hkk]at y
 obtain⟨n',hn',hl⟩:=e_loopD t h ho2 hn y (-1,K) trivial
 rw[after_fold h k (xorN o c) f hn K]at hl
 generalize lO t k (xorN o c) n=r at*
 generalize aftK t f (xorN o c) n K=K' at*
 have hL:=G.len
 have hd:=G.ltg
 obtain⟨x0,x1,x2,rfl⟩: ∃x0 x1 x2,n=[x0,x1,x2]:=by
  match n,hn.1 with
  |[x0,x1,x2],_=>exact⟨x0,x1,x2,rfl⟩
 have hm:=fun(loc:Ab.Loc) lab=>e_moves ((k+1:Nat):Int) o c (by omega) x0 x1 x2 ho hc dg lg lab loc (S K.1) (by rw[hL];omega)
 rw[hkk]at hm
 simp only[hL]at hm
 simp only[aftF,hkk]at hl
 generalize xorN o c=o2 at*
 have e1: ¬dg=L:=by omega
 simp only[sceneL,List.map_cons,List.map_nil,Nat.reduceAdd]at hl hm⊢
 generalize ((k+1:Nat):Int)=T1 at*
 rw[den_fn t48 _ _ _ rfl]
 simp only[b48]
 simp (maxSteps:=1000000) (disch:=first|omega|assumption|decide +kernel|(simp;done)|(simp;omega)|fail) [run_drawnK,orSlow_none,hL,hm,hl,e1]
end Go.Proofs.YtmgkcipcjabigaaGreatDoor

/-
  Doors: value.
-/
namespace Go.Proofs.YtmgkcipcjabigaaGreatDoor
open Go.Ab
theorem mem_bitsL {g:Nat} {i:Nat}:(i:Int)∈bitsL g↔i<5∧g.testBit i=true:=by
 simp only[bitsL,List.mem_map,List.mem_filter,List.mem_range]
 constructor
 ·rintro⟨j,h,e⟩
  obtain rfl:j=i:=by omega
  exact h
 ·exact fun h=>⟨i,h,rfl⟩
theorem open_flip {gs:List DGate}(hg:gs.length≤5)(o:Nat) {c:List Int}(hc:c∈allL 5):openG (xorN o (maskL c)) gs=flipG (openG o gs) c:=by
 apply List.ext_getElem?
 intro i
 rw[flipS_get,openS_get,openS_get,Nat.zero_add]
 by_cases hi:i<gs.length
 ·rw[List.getElem?_eq_getElem hi]
  simp only[Option.map_some]
  have hm:=mem_bitsL (g:=maskL c) (i:=i)
  rw[bits_mask c hc]at hm
  have hx:(xorN o (maskL c)).testBit i=((o.testBit i)^^((maskL c).testBit i)):=by unfold xorN;exact Nat.testBit_xor ..
  rw[hx]
  by_cases h:(i:Int)∈c
  ·rw[if_pos h,(hm.1 h).2];cases o.testBit i<;>rfl
  ·rw[if_neg h]
   have:(maskL c).testBit i=false:=by
    cases e:(maskL c).testBit i
    ·rfl
    ·exact absurd (hm.2 ⟨by omega,e⟩) h
   rw[this];cases o.testBit i<;>rfl
 ·rw[List.getElem?_eq_none (by omega)];rfl
abbrev cN(t:DTrap):List Nat:=changesB t.hands.toNat t.gates.length
theorem cN_lt {t:DTrap}(h:DoorOk t) {c:Nat}(hc:c∈cN t):c<32:=by
 obtain⟨l,hl,rfl⟩:=List.mem_map.1 hc
 exact mask_lt 5 (by decide) l (choices_up (by have:=h.gl;omega) hl)
theorem maxL_fold: ∀(l:List Int) (a:Int),0≤a→l.foldl max a=max a (maxL l)
 |[],a,h=>by simp[maxL];omega
 |x::r,a,h=>by
   rw[List.foldl_cons,maxL_fold r _ (by omega)]
   simp only[maxL];omega
theorem wO_succ {t:DTrap}(h:DoorOk t)(k o:Nat)(n:List Int):wO t (k+1) o n=((cN t).map fun c=>lO t k (xorN o c) n).foldl max 0:=by
 rw[maxL_fold _ _ (by omega),Int.max_eq_right (maxL_nonneg _)]
 unfold wO
 rw[worthS_succ,openS_length]
 simp only[cN,changesB,List.map_map]
 congr 1
 apply List.map_congr_left
 intro c hc
 simp only[Function.comp]
 unfold lO
 rw[open_flip h.gl o (choices_up (by have:=h.gl;omega) hc)]
theorem lO_range {t:DTrap}(h:DoorOk t)(k o n):0≤lO t k o n∧lO t k o n≤297:=by
 obtain⟨m,_,e⟩:=leastS_mem t.chambers.toNat t.hands.toNat (fishL t) k (openG o t.gates) (n.take t.groups.length)
 have hw:=wO_range h k o (m.take t.groups.length ++List.replicate (t.groups.length-m.length) 0)
 have hf: ∀f∈fishL t,0≤f:=fun f hf=>by
  obtain⟨g,hg,rfl⟩:=List.mem_map.1 hf
  exact(h.groups g hg).2.1
 have h1:=worthS_nonneg (n:=t.chambers.toNat) (h:=t.hands.toNat) hf k (openG o t.gates) m
 have h2:=worthS_le (n:=t.chambers.toNat) (h:=t.hands.toNat) hf k (openG o t.gates) m
 have h3:=wO_range h 0 0 []
 unfold lO
 rw[e]
 refine⟨h1,Int.le_trans h2 ?_⟩
 have key: ∀l:List Int,(∀f∈l,0≤f∧f≤99)→sumF l≤99*l.length:=by
  intro l
  induction l with
  |nil=>intro _;simp[sumF]
  |cons x r ih=>
    intro hh
    have:=ih fun f hf=>hh f (by simp[hf])
    have:=hh x (by simp)
    simp only[sumF,List.foldr_cons,List.length_cons]at*
    omega
 have h5:=key (fishL t) fun f hf=>by
  obtain⟨g,hg,rfl⟩:=List.mem_map.1 hf
  exact(h.groups g hg).2
 have h4:(fishL t).length≤3:=by simpa [fishL]using h.ol
 omega
abbrev keyD(k o:Nat)(n:List Int):List Int:=(k:Int)::(o:Int)::n
theorem wKey_key(t:DTrap)(k o:Nat) {n:List Int}(hn:n.length=3):wKey t (keyD k o n)=wO t k o n:=by
 match n,hn with
 |[a,b,c],_=>simp[keyD,wKey]
def valK(t:DTrap):Nat→Nat→List Int→MemW t→MemW t
 |0,_,_,K=>K
 |k+1,o,n,K=>if (kvGet K.1 (keyD (k+1) o n)).isSome then K else((cN t).foldl (fun K c=>aftK t (valK t k) (xorN o c) n K) K).put (keyD (k+1) o n)
set_option maxHeartbeats 8000000 in
theorem e_value {t:DTrap}(h:DoorOk t)(k:Nat):k≤4→ValD t (chB t) k (valK t k):=by
 induction k with
 |zero=>
   intro _ m dg lg dm lm L S G hmm o n K lab ho hn
   obtain⟨x0,x1,x2,rfl⟩: ∃x0 x1 x2,n=[x0,x1,x2]:=by
    match n,hn.1 with
    |[x0,x1,x2],_=>exact⟨x0,x1,x2,rfl⟩
   have hL:=G.len K.1
   have hd:=G.ltg
   have hc:=fun lab=>e_caught t h.ol h.ch (fun g hg=>(h.groups g hg).2) (chB t) m x0 x1 x2 dg lg ([(48, .cell [i64 0,i64 (o:Nat),i64 x0,i64 x1,i64 x2])]::S K.1) (by simp only[List.length_cons];omega) (by rw[sget_cons,if_neg (by omega),G.game]) lab
   have e:caughtS t.chambers.toNat (fishL t) [x0,x1,x2]=wO t 0 o [x0,x1,x2]:=by
    unfold wO
    simp only[worthS]
    have: ∀(f p:List Int) (k:Nat),f.length≤k→caughtS t.chambers.toNat f (p.take k)=caughtS t.chambers.toNat f p:=by
     intro f
     induction f with
     |nil=>intro p k _;simp[caughtS]
     |cons x f ih=>
       intro p k hk
       cases p with
       |nil=>simp
       |cons y p=>
         cases k with
         |zero=>simp at hk
         |succ k=>simp only[List.take_succ_cons,caughtS,ih p k (by simpa using hk)]
    exact(this _ _ _ (by simp[fishL])).symm
   rw[e]at hc
   simp only[valK]
   generalize wO t 0 o [x0,x1,x2]=w at*
   generalize S K.1=X at*
   subst hL
   simp only[sceneL,List.map_cons,List.map_nil,Int.natCast_zero]
   change den T _ [_, .agg [i64 0,_,_,_,_]] _ _=_
   rw[den_fn t27 _ _ _ rfl]
   simp only[b27]
   simp (maxSteps:=1000000) (disch:=first|omega|assumption|decide +kernel|(simp;done)|(simp;omega)|fail) [hc]
 |succ k ih0=>
   intro hk m dg lg dm lm L S G hmm o n K lab ho hn
   have ih:= @ih0 (by omega)
   obtain⟨x0,x1,x2,rfl⟩: ∃x0 x1 x2,n=[x0,x1,x2]:=by
    match n,hn.1 with
    |[x0,x1,x2],_=>exact⟨x0,x1,x2,rfl⟩
   have hL:=G.len
   have hd:=G.ltg
   have hd2:=G.ltm
   have e1: ¬dg=L:=by omega
   have e2: ¬dm=L:=by omega
   have hga:=G.game
   have hme:=G.mem
   have hpu:=G.put
   have hw:=wKey_key t (k+1) o (n:=[x0,x1,x2]) rfl
   have haf:=fun(c:Nat) (hc:c<32) (K:MemW t) lab=>e_after h (by omega:k<4) @ih (G.push [[(48, .cell [i64 ((k+1:Nat):Int),i64 (o:Nat),i64 x0,i64 x1,i64 x2])]]) hmm o c ho hc hn K lab
   have hsc:=wO_succ h k o [x0,x1,x2]
   have hlr:=fun c=>lO_range h k (xorN o c) [x0,x1,x2]
   have hT:(((k+1:Nat):Int)=0)=False:=by simp;omega
   simp only[sceneL,List.map_cons,List.map_nil,List.cons_append,List.nil_append]at haf⊢
   simp only[valK]
   have key:=loop_fold (T:=Go.Proofs.YtmgkcipcjabigaaGreatDoor.T) (live:=[0,3,7,31,32,33]) (keep:=[48,256]) (b:=d27l0) (cN t) (fun _ (a:Int×MemW t)=>0≤a.1∧a.1≤297) (fun a c=>(max a.1 (lO t k (xorN o c) [x0,x1,x2]),aftK t (valK t k) (xorN o c) [x0,x1,x2] a.2))
    (fun j a=>[(0, .ptr dg lg 0),(3, .ptr L 48 0),(7,i64 a.1),(31, .sl .no 1 (es cInt (chB t))),(32,i64 (cN t).length),(33,i64 (j:Nat))]) (fun _ a=>[(48, .cell [i64 ((k+1:Nat):Int),i64 (o:Nat),i64 x0,i64 x1,i64 x2])]::S a.2.1)
    (fun a=>(.exit 0,[(0, .ptr dg lg 0),(3, .ptr L 48 0),(7,i64 a.1),(31, .sl .no 1 (es cInt (chB t))),(32,i64 (cN t).length),(33,i64 (cN t).length),(34, .bool false)],[(48, .cell [i64 ((k+1:Nat):Int),i64 (o:Nat),i64 x0,i64 x1,i64 x2])]::S a.2.1))
    (by simp) ?_ ?_ ?_ (0,K) (by simp) [(0, .ptr dg lg 0),(3, .ptr L 48 0),(7,i64 0),(31, .sl .no 1 (es cInt (chB t))),(32,i64 (cN t).length),(33,i64 0)] ([(48, .cell [i64 ((k+1:Nat):Int),i64 (o:Nat),i64 x0,i64 x1,i64 x2])]::S K.1) (by simp[hL,e1]) (by simp[hL])
   ·change Run Go.Proofs.YtmgkcipcjabigaaGreatDoor.T b27l0 _ _=_ at key
    rw[fold_pair (fun a c=>max a (lO t k (xorN o c) [x0,x1,x2])) (fun K c=>aftK t (valK t k) (xorN o c) [x0,x1,x2] K),←List.foldl_map (f:=fun c=>lO t k (xorN o c) [x0,x1,x2]) (g:=max),←hsc]at key
    have hcl:(chB t).length=(cN t).length:=by simp[chB,natI]
    have hr: ∀v,kvGet K.1 (keyD (k+1) o [x0,x1,x2])=some v→v=wO t (k+1) o [x0,x1,x2]:=fun v hv=>by rw[←hw];exact K.2 _ _ hv
    simp only[keyD]at hr hw⊢
    generalize wO t (k+1) o [x0,x1,x2]=w at*
    generalize List.foldl _ K (cN t)=K' at*
    generalize hTT:((k+1:Nat):Int)=T1 at*
    generalize chB t=C at*
    generalize (cN t).length=N at*
    cases hv:kvGet K.1 [T1,(o:Nat),x0,x1,x2]with
    |some v=>
      obtain rfl:=hr v hv
      rw[den_fn t27 _ _ _ rfl]
      simp only[b27]
      simp (maxSteps:=1000000) (disch:=first|omega|assumption|decide +kernel|(simp;done)|(simp;omega)|fail) [run_drawnK,orSlow_none,hmm,hL,hga,hme,hpu,e1,e2,hT,hv]
    |none=>
      rw[den_fn t27 _ _ _ rfl]
      simp only[b27]
      simp (maxSteps:=1000000) (disch:=first|omega|assumption|decide +kernel|(simp;done)|(simp;omega)|fail) [run_drawnK,orSlow_none,hmm,hL,hga,hme,hpu,e1,e2,hT,hv,hcl,key,Mem.put,hw]
   ·intro j a hj hi
    obtain⟨a,K2⟩:=a
    have hj2:(j:Int)<(cN t).length:=by omega
    have hcl:(chB t).length=(cN t).length:=by simp[chB,natI]
    have hj3:j<(chB t).length:=by omega
    have hcj:(chB t)[j]=((cN t)[j]:Int):=by simp[chB,natI]
    have hc:=cN_lt h (List.getElem_mem hj)
    have hlen:(cN t).length≤32:=by rw[←hcl];exact(chB_len h).2.2
    have ha:=haf _ hc K2
    have hr:=hlr (cN t)[j]
    generalize (cN t)[j]=c at*
    simp only at hi⊢
    generalize lO t k (xorN o c) [x0,x1,x2]=w at*
    generalize aftK t (valK t k) (xorN o c) [x0,x1,x2] K2=K' at*
    generalize hTT:((k+1:Nat):Int)=T1 at*
    generalize chB t=C at*
    simp (maxSteps:=1000000) (disch:=first|omega|assumption|decide +kernel|(simp;done)|(simp;omega)|fail) [hj,hj2,hj3,hcj,hL,hga,e1,ha,wk j (by omega)]
   ·intro j a hj hi
    have:=hlr (cN t)[j]
    simp only
    omega
   ·intro a hi
    simp
end Go.Proofs.YtmgkcipcjabigaaGreatDoor

/-
  Doors: Worth, Plan, Turns.
-/
namespace Go.Proofs.YtmgkcipcjabigaaGreatDoor
open Go.Ab
theorem GameD.top {t C} {s:Stk} {lg lm:Nat} {X:List (List Int×Int)→Ab.Loc}(hg: ∀K,(X K).get lg=some (.cell (gameV t C (.mp (.ptr s.length lm 0)))))(hm: ∀K,(X K).get lm=some (.mp (some 5) K))(hp: ∀K K',(X K).put lm (.mp (some 5) K')=X K'):
 GameD t C (.mp (.ptr s.length lm 0)) s.length lg s.length lm (s.length+1) (fun K=>X K::s) where
 len:=fun K=>by simp
 ltg:=by omega
 ltm:=by omega
 game:=fun K=>by rw[sget_top,hg]
 mem:=fun K=>by rw[sget_top,hm]
 put:=fun K K'=>by rw[sput_top,hp]
def nAt(t:DTrap):List Int:=[at0 t 0,at0 t 1,at0 t 2]
def worthT(t:DTrap)(k:Nat):Int:=worthS t.chambers.toNat t.hands.toNat (fishL t) k t.gates (posL t)
abbrev gN(t:DTrap):Nat:=gateBits t.gates
theorem at0_get {t:DTrap} {i:Nat}(hi:i<t.groups.length):at0 t i=t.groups[i].pos:=by simp[at0,pk,hi]
theorem nAt_in {t:DTrap}(h:DoorOk t):InN t (nAt t):=by
 refine⟨rfl,fun i hi=> ?_⟩
 have h3:=h.ol
 have:(nAt t).getD i 0=at0 t i:=by
  obtain rfl|rfl|rfl:i=0∨i=1∨i=2:=by omega
  all_goals rfl
 rw[this,at0_get hi]
 exact(h.groups _ (List.getElem_mem hi)).1
theorem nAt_take {t:DTrap}(h:DoorOk t):(nAt t).take t.groups.length=posL t:=by
 have h3:=h.ol
 apply List.ext_getElem?
 intro i
 rw[List.getElem?_take]
 split
 ·rename_i hi
  have:(nAt t)[i]? =some (at0 t i):=by
   obtain rfl|rfl|rfl:i=0∨i=1∨i=2:=by omega
   all_goals rfl
  rw[this,at0_get hi]
  simp[posL,hi]
 ·rename_i hi
  simp only[posL,List.getElem?_map,List.getElem?_eq_none (show t.groups.length≤i by omega)];rfl
theorem gN_lt {t:DTrap}(h:DoorOk t):gN t<32:=gateBits_lt h.gl
theorem wO_start {t:DTrap}(h:DoorOk t)(k:Nat):wO t k (gN t) (nAt t)=worthT t k:=by
 unfold wO worthT
 rw[nAt_take h,openG_bits]
theorem start_cells(t:DTrap):sceneV t.turns (gN t:Nat) (at0 t 0) (at0 t 1) (at0 t 2)=sceneL t.turns (gN t:Nat) (nAt t):=rfl
def worthR(t:DTrap):Int×Int:=if doorB t=true then(worthT t t.turns.toNat,0)else(0,30)
set_option maxHeartbeats 8000000 in
theorem e_Worth(t:DTrap)(hs:ShortD t)(lab s):den T 15 [.agg (dV t)] lab s=some (.tup [i64 (worthR t).1,i64 (worthR t).2],s):=by
 unfold worthR
 cases h:doorB t
 ·have hb:=fun lab loc s=>e_begin_bad t hs h true lab loc s
  rw[den_fn t15 _ _ _ rfl]
  simp only[b15]
  simp (maxSteps:=1000000) (disch:=first|omega|assumption|decide +kernel|(simp;done)|(simp;omega)|fail) [hb]
 ·have ho:=doorB_iff.1 h
  have hb:=fun lab loc k0 k1=>e_begin t ho lab loc s k0 k1
  have hT:((t.turns.toNat:Nat):Int)=t.turns:=by have:=ho.tu;omega
  have hv:=fun lab=>e_value ho t.turns.toNat (by have:=ho.tu;omega) (GameD.top (s:=s) (lg:=144) (lm:=1144) (X:=fun K=>[(16, .cell (dV t)),(144, .cell (gameV t (chB t) (.mp (.ptr s.length 1144 0)))),(1144, .mp (some 5) K),(80, .cell (scene0 t))]) (fun K=>rfl) (fun K=>rfl) (fun K K'=>rfl)) rfl (gN t) (nAt t) Mem.nil lab (gN_lt ho) (nAt_in ho)
  rw[wO_start ho,hT,←start_cells]at hv
  simp only[scene0]at hb hv
  generalize worthT t _=w at*
  generalize valK t _ _ _ _=K' at*
  generalize chB t=C at*
  change∀lab,den T _ _ lab ([(16,_),(144,_),(1144, .mp (some 5) []),(80,_)]::s)=_ at hv
  rw[den_fn t15 _ _ _ rfl]
  simp only[b15]
  simp (maxSteps:=1000000) (disch:=first|omega|assumption|decide +kernel|(simp;done)|(simp;omega)|fail) [hb,hv]
end Go.Proofs.YtmgkcipcjabigaaGreatDoor

/-
  Regions in each order that they may have, by an invariant.
-/
namespace Go.Proofs.YtmgkcipcjabigaaGreatDoor
open Go.Ab
theorem run_each2(A B live e s)(h:bruteOps (spl A B)=true):Run T (.region true (spl A B) live) e s=eachK (runAny T (Run T) (A ++B) live (A ++B) [] e s):=run_each A B live e s h
theorem mem_ready: ∀(ops:List AOper) (k:Nat) (done:List Nat) (i:Nat),i∈readyFrom k ops done↔ ∃j o,ops[j]? =some o∧i=k+j∧i∉done∧ ∀p∈o.pre,p∈done
 |[],k,done,i=>by simp[readyFrom]
 |o::r,k,done,i=>by
   have ih:=mem_ready r (k+1) done i
   have hs:(∃j o',(o::r)[j]? =some o'∧i=k+j∧i∉done∧ ∀p∈o'.pre,p∈done)↔(i=k∧i∉done∧ ∀p∈o.pre,p∈done)∨ ∃j o',r[j]? =some o'∧i=k+1+j∧i∉done∧ ∀p∈o'.pre,p∈done:=by
    constructor
    ·rintro⟨j,o',h1,h2,h3⟩
     cases j with
     |zero=>simp at h1;subst h1;exact .inl ⟨by omega,h3⟩
     |succ j=>exact .inr ⟨j,o',by simpa using h1,by omega,h3⟩
    ·rintro(⟨h1,h2⟩|⟨j,o',h1,h2,h3⟩)
     ·exact⟨0,o,rfl,by omega,h2⟩
     ·exact⟨j+1,o',by simpa using h1,by omega,h3⟩
   rw[hs]
   simp only[readyFrom]
   split
   ·rename_i hc
    rw[ih]
    constructor
    ·exact .inr
    ·rintro(⟨h1,h2,h3⟩|h)
     ·subst h1
      simp only[Bool.or_eq_true,List.contains_iff_mem,Bool.not_eq_true',List.all_eq_false]at hc
      rcases hc with hc|⟨p,hp,hn⟩
      ·exact absurd hc h2
      ·exact absurd (by simpa using h3 p hp) hn
     ·exact h
   ·rename_i hc
    simp only[Bool.or_eq_true,List.contains_iff_mem,Bool.not_eq_true',List.all_eq_false,not_or,not_exists,not_and,Decidable.not_not]at hc
    rw[List.mem_cons,ih]
    constructor
    ·rintro(h|h)
     ·subst h;exact .inl ⟨rfl,hc.1,fun p hp=>by simpa using hc.2 p hp⟩
     ·exact .inr h
    ·rintro(⟨h1,_⟩|h)
     ·exact .inl h1
     ·exact .inr h
theorem agree_all {α:Type} {l:List (Option α)} {x:Option α}(hne:l≠[])(h: ∀y∈l,y=x):agree l=x:=by
 cases l with
 |nil=>exact absurd rfl hne
 |cons a r=>
   have ha:=h a (by simp)
   subst ha
   simp only[agree]
   rw[if_pos fun y hy=>h y (by simp[hy])]
def undone(n:Nat)(done:List Nat):Nat:=((List.range n).filter fun i=> !done.contains i).length
theorem undone_step {n i:Nat} {done:List Nat}(hi:i<n)(hd:i∉done):undone n (i::done)<undone n done:=by
 unfold undone
 have e:(List.range n).filter (fun j=> !(i::done).contains j)=((List.range n).filter fun j=> !done.contains j).filter fun j=>decide (j≠i):=by
  rw[List.filter_filter]
  apply List.filter_congr
  intro j _
  rw[Bool.eq_iff_iff]
  simp[List.mem_cons,not_or]
 rw[e]
 have hm:i∈(List.range n).filter fun j=> !done.contains j:=by simp[hi,hd]
 generalize (List.range n).filter (fun j=> !done.contains j)=l at hm
 induction l with
 |nil=>cases hm
 |cons x r ih=>
   rw[List.filter_cons]
   split
   ·rename_i hx
    rcases List.mem_cons.1 hm with rfl|hm
    ·simp at hx
    ·simpa using ih hm
   ·have:=List.length_filter_le (fun j=>decide (j≠i)) r
    simp only[List.length_cons];omega
theorem runAny_inv {ops:List AOper} {live:List Nat}(Inv:List Nat→Env→Stk→Prop)(r:Env×Stk)(hend: ∀done e s,Inv done e s→readyFrom 0 ops done=[]→(e.only live,s)=r)
 (hstep: ∀done e s i o,Inv done e s→ops[i]? =some o→i∉done→(∀p∈o.pre,p∈done)→ ∃e1 s1,runOps T (Run T) [o] e s=some (e1,s1)∧Inv (i::done) e1 s1):
 ∀(f:List AOper) (done:List Nat) (e:Env) (s:Stk),undone ops.length done≤f.length→Inv done e s→runAny T (Run T) ops live f done e s=some r
 |[],done,e,s,hu,h=>by
   have hz:readyFrom 0 ops done=[]:=by
    cases hr:readyFrom 0 ops done with
    |nil=>rfl
    |cons i l=>
      exfalso
      obtain⟨j,o,h1,h2,h3,_⟩:=(mem_ready ops 0 done i).1 (by rw[hr];simp)
      have hl:=(List.getElem?_eq_some_iff.1 h1).1
      have:=undone_step (n:=ops.length) (i:=i) (done:=done) (by omega) h3
      simp at hu;omega
   simp only[runAny,if_pos hz,hend _ _ _ h hz]
 |x::f,done,e,s,hu,h=>by
   simp only[runAny]
   by_cases hz:readyFrom 0 ops done=[]
   ·rw[if_pos hz,hend _ _ _ h hz]
   ·rw[if_neg hz]
    refine agree_all (by simpa using hz) fun y hy=> ?_
    obtain⟨i,hi,rfl⟩:=List.mem_map.1 hy
    obtain⟨j,o,h1,h2,h3,h4⟩:=(mem_ready ops 0 done i).1 hi
    rw[Nat.zero_add]at h2
    subst h2
    obtain⟨e1,s1,h5,h6⟩:=hstep done e s i o h h1 h3 h4
    have hl:=(List.getElem?_eq_some_iff.1 h1).1
    rw[h1]
    simp only[h5]
    exact runAny_inv Inv r hend hstep f (i::done) e1 s1 (by have:=undone_step (n:=ops.length) hl h3;simp at hu;omega) h6
theorem runAny_start {ops:List AOper} {live:List Nat} {e:Env} {s:Stk}(Inv:List Nat→Env→Stk→Prop)(r:Env×Stk)(h0:Inv [] e s)(hend: ∀done e s,Inv done e s→readyFrom 0 ops done=[]→(e.only live,s)=r)
 (hstep: ∀done e s i o,Inv done e s→ops[i]? =some o→i∉done→(∀p∈o.pre,p∈done)→ ∃e1 s1,runOps T (Run T) [o] e s=some (e1,s1)∧Inv (i::done) e1 s1):runAny T (Run T) ops live ops [] e s=some r:=
 runAny_inv Inv r hend hstep ops [] e s (by unfold undone;have:=List.length_filter_le (fun i=> !([]:List Nat).contains i) (List.range ops.length);simpa using this) h0
theorem ready_all {ops:List AOper} {done:List Nat}(h:readyFrom 0 ops done=[])(hp: ∀(i:Nat) o,ops[i]? =some o→ ∀p∈o.pre,p<i): ∀i,i<ops.length→i∈done:=by
 intro i
 induction i using Nat.strongRecOn with
 |ind i ih=>
   intro hi
   apply Classical.byContradiction
   intro hn
   have:i∈readyFrom 0 ops done:=(mem_ready ops 0 done i).2 ⟨i,ops[i],List.getElem?_eq_getElem hi,by omega,hn,fun p hq=>ih p (hp i _ (List.getElem?_eq_getElem hi) p hq) (by have:=hp i _ (List.getElem?_eq_getElem hi) p hq;omega)⟩
   rw[h]at this;cases this
end Go.Proofs.YtmgkcipcjabigaaGreatDoor

/-
  Doors: Plan.
-/
namespace Go.Proofs.YtmgkcipcjabigaaGreatDoor
open Go.Ab
@[simp] theorem Mem.nil_val {W:List Int→Int}:(Mem.nil:Mem W).1=[]:=rfl
end Go.Proofs.YtmgkcipcjabigaaGreatDoor

/-
  Doors: bitsOf, changed, After.
-/
namespace Go.Proofs.YtmgkcipcjabigaaGreatDoor
open Go.Ab
end Go.Proofs.YtmgkcipcjabigaaGreatDoor

/-
  Doors: changed, After.
-/
namespace Go.Proofs.YtmgkcipcjabigaaGreatDoor
open Go.Ab
end Go.Proofs.YtmgkcipcjabigaaGreatDoor

/-
  Doors: reaches: where a group can come to.
-/
namespace Go.Proofs.YtmgkcipcjabigaaGreatDoor
open Go.Ab
def canG(n h:Nat)(fs:List Int):Nat→List DGate→List Int→Bool
 |0,_,ps=>decide (0<caughtS n fs ps)
 |k+1,gs,ps=>(choicesS h gs.length).any fun c=>(movesS (ps.map (waysS n (flipG gs c)))).any (canG n h fs k (flipG gs c))
def cO(t:DTrap)(k o:Nat)(n:List Int):Bool:=canG t.chambers.toNat t.hands.toNat (fishL t) k (openG o t.gates) (n.take t.groups.length)
theorem any_congr {α:Type} {f g:α→Bool}: ∀ {l:List α},(∀x∈l,f x=g x)→l.any f=l.any g
 |[],_=>rfl
 |x::l,h=>by rw[List.any_cons,List.any_cons,h x (by simp),any_congr fun y hy=>h y (by simp[hy])]
theorem cO_succ {t:DTrap}(h:DoorOk t)(k o:Nat) {n:List Int}(hn:InN t n):cO t (k+1) o n=(cN t).any fun c=>(movesO t (xorN o c) n).any fun m=>cO t k (xorN o c) (m ++n.drop t.groups.length):=by
 unfold cO
 rw[canG,openS_length]
 simp only[cN,changesB,List.any_map]
 refine any_congr fun c hc=> ?_
 have hc5:=choices_up (by have:=h.gl;omega) hc
 simp only[Function.comp]
 rw[←open_flip h.gl o hc5]
 refine any_congr fun m hm=> ?_
 rw[moves_take h hn hm]
def cKey(t:DTrap):List Int→Int
 |[k,o,a,b,c]=>if cO t k.toNat o.toNat [a,b,c]=true then 0 else 1
 |_=>0
abbrev MemC(t:DTrap):=Mem (cKey t)
theorem cKey_key(t:DTrap)(k o:Nat) {n:List Int}(hn:n.length=3):cKey t (keyD k o n)=if cO t k o n=true then 0 else 1:=by
 match n,hn with
 |[a,b,c],_=>simp[keyD,cKey]
def CanD(t:DTrap)(C:List Int)(k:Nat)(f:Nat→List Int→MemC t→MemC t):Prop:= ∀ {m:V} {dg lg dm lm L:Nat} {S:List (List Int×Int)→Stk},GameD t C m dg lg dm lm L S→
 ∀(o:Nat) (n:List Int) (K:MemC t) (lab:Nat),o<32→InN t n→den T 29 [.ptr dg lg 0, .agg (sceneL (k:Nat) (o:Nat) n), .mp (.ptr dm lm 0)] lab (S K.1)=some (.bool (cO t k o n),S (f o n K).1)
def reachE(L:Nat)(C:List Int)(i:Nat):Env:=[(3, .ptr L 48 0),(4, .ptr L 64 0),(5, .ptr L 80 0),(6, .ptr L 96 0),(25, .sl .no 1 (es cInt C)),(26,i64 C.length),(27,i64 (i:Nat)),(34, .fn 62 [] [.ptr L 544 0, .ptr L 1544 0, .ptr L 2544 0])]
def reachF(L dg lg dm lm:Nat)(C:List Int)(i:Nat)(T1 T':Int)(o o2:Nat)(n0 n:List Int)(x:LoopState)(ex:Option Ex)(res:Bool):Ab.Loc:=
 [(48, .cell [.ptr dg lg 0]),(64, .cell (sceneL T1 (o:Nat) n0)),(80, .cell [.mp (.ptr dm lm 0)]),(96, .cell [.bool res]),(544, .cell [.ptr dg lg 0]),(1544, .cell (sceneL T' (o2:Nat) n)),(2544, .cell (sceneL T1 (o:Nat) n0)),
  (7431, .loop [35] b29l1 b29l2 (reachE L C i) x ex)]
def reachY(t:DTrap)(k o2:Nat)(f:Nat→List Int→MemC t→MemC t)(a:MemC t×Bool)(m:List Int):(MemC t×Bool)×Bool:=
 if cO t k o2 m=true then((f o2 m a.1,true),false)else((f o2 m a.1,false),true)
abbrev reachSt(t:DTrap)(L dg lg dm lm:Nat)(C:List Int)(i:Nat)(T1 T':Int)(o o2:Nat)(n0:List Int)(S:List (List Int×Int)→Stk)(n:List Int)(a:MemC t×Bool):Stk:=
 reachF L dg lg dm lm C i T1 T' o o2 n0 n (if a.2=true then .done else .ready) (if a.2=true then some .ret else none) a.2::S a.1.1
set_option maxHeartbeats 4000000 in
theorem reach_yield(t:DTrap)(C:List Int)(k:Nat)(f)(hf:CanD t C k f) {m:V} {dg lg dm lm L:Nat} {S:List (List Int×Int)→Stk}(G:GameD t C m dg lg dm lm L S)
 (i:Nat) (T1 T':Int) (hk:T'=(k:Nat)) (o o2:Nat) (ho2:o2<32) (n0:List Int):
 YieldD t C m (MemC t×Bool) L 7431 L 544 dg lg (L+1) T1 (o:Nat) T' (o2:Nat) n0 (reachSt t L dg lg dm lm C i T1 T' o o2 n0 S) (reachY t k o2 f) (fun a=>a.2=false) where
 len:=fun n a=>by simp[G.len]
 ltd:=by omega
 ltb:=by omega
 ltg:=by have:=G.ltg;omega
 gbox:=fun n a=>by rw[←G.len a.1.1,sget_top];rfl
 game:=fun n a=>by rw[sget_cons,if_neg (by rw[G.len];have:=G.ltg;omega),G.game]
 next:=fun n a=>by rw[←G.len a.1.1,sget_top];rfl
 scene:=fun n a=>by rw[←G.len a.1.1,sget_top];rfl
 put:=fun n n' a=>by
  have e:=G.len a.1.1
  unfold reachSt
  generalize S a.1.1=X at*
  subst e
  rw[sput_top];rfl
 keep:=fun n a _ _ hb=>by
  unfold reachY at hb⊢
  split at hb
  ·cases hb
  ·rename_i h1;rw[if_neg h1]
 yield:=fun fr n a lab hn hok=>by
  obtain⟨K,res⟩:=a
  simp only at hok
  subst hok
  have top: ∀x ex res (K:List (List Int×Int)) l',sget (fr ++reachF L dg lg dm lm C i T1 T' o o2 n0 n x ex res::S K) L l'=(reachF L dg lg dm lm C i T1 T' o o2 n0 n x ex res).get l':=fun x ex res K l'=>by
   rw[sget_append _ _ _ _ (by simp[G.len]),←G.len K,sget_top]
  have put: ∀x ex res (K:List (List Int×Int)) l' en,sput (fr ++reachF L dg lg dm lm C i T1 T' o o2 n0 n x ex res::S K) L l' en=fr ++(reachF L dg lg dm lm C i T1 T' o o2 n0 n x ex res).put l' en::S K:=fun x ex res K l' en=>by
   rw[sput_append _ _ _ _ _ (by simp[G.len])]
   have e:=G.len K
   generalize S K=X at*
   subst e
   rw[sput_top]
  have hlen: ∀x ex res (K:List (List Int×Int)),L<(fr ++reachF L dg lg dm lm C i T1 T' o o2 n0 n x ex res::S K).length:=fun x ex res K=>by simp[G.len];omega
  have hv:=fun lab=>hf (G.push ([(144, .cell (sceneL T' (o2:Nat) n))]::(fr ++[reachF L dg lg dm lm C i T1 T' o o2 n0 n .busy none false]))) o2 n K lab ho2 hn
  rw[←hk]at hv
  simp only[List.cons_append,List.append_assoc,List.nil_append]at hv
  obtain⟨x0,x1,x2,rfl⟩: ∃x0 x1 x2,n=[x0,x1,x2]:=by
   match n,hn.1 with
   |[x0,x1,x2],_=>exact⟨x0,x1,x2,rfl⟩
  obtain⟨X,hX⟩: ∃X:List (List Int×Int)→Bool→Stk,∀K res,fr ++reachF L dg lg dm lm C i T1 T' o o2 n0 [x0,x1,x2] .busy none res::S K=X K res:=⟨_,fun _ _=>rfl⟩
  have gX: ∀K res l',sget (X K res) L l'=(reachF L dg lg dm lm C i T1 T' o o2 n0 [x0,x1,x2] .busy none res).get l':=fun K res l'=>by rw[←hX,top]
  have hXl: ∀K res,¬L=(X K res).length:=fun K res=>by have:=hlen .busy none res K;rw[hX]at this;omega
  have hpX: ∀(K:List (List Int×Int)) res b,sput (X K res) L 96 (.cell [.bool b])=X K b:=fun K res b=>by rw[←hX,put,←hX];rfl
  have g48: ∀K res,sget (X K res) L 48=some (.cell [.ptr dg lg 0]):=fun K res=>by rw[gX];rfl
  have g80: ∀K res,sget (X K res) L 80=some (.cell [.mp (.ptr dm lm 0)]):=fun K res=>by rw[gX];rfl
  have g96: ∀K res,sget (X K res) L 96=some (.cell [.bool res]):=fun K res=>by rw[gX];rfl
  simp only[hX]at hv
  have hyr: ∀res (K:List (List Int×Int)) x1' ex1,sput (X K res) L 7431 (.loop [35] b29l1 b29l2 (reachE L C i) x1' ex1)=fr ++reachF L dg lg dm lm C i T1 T' o o2 n0 [x0,x1,x2] x1' ex1 res::S K:=fun res K x1' ex1=>by rw[←hX,put];rfl
  have hAl:(fr ++reachF L dg lg dm lm C i T1 T' o o2 n0 [x0,x1,x2] .ready none false::S K.1).length=(X K.1 false).length:=by rw[←hX];simp
  have hXll: ∀(K':MemC t) b,(X K'.1 b).length=(X K.1 false).length:=fun K' b=>by rw[←hX,←hX];simp[G.len]
  generalize hK2:f o2 [x0,x1,x2] K=K2 at*
  simp only[sceneL,List.map_cons,List.map_nil]at hv
  cases hw:cO t k o2 [x0,x1,x2]<;>rw[hw]at hv
  ·have B: ∃e,Run T b29l2 [(3, .ptr L 48 0),(4, .ptr L 64 0),(5, .ptr L 80 0),(6, .ptr L 96 0),(9, .ptr (X K.1 false).length 144 0),(25, .sl .no 1 (es cInt C)),(26,i64 C.length),(27,i64 (i:Nat))] ([(144, .cell (sceneL T' (o2:Nat) [x0,x1,x2]))]::X K.1 false)=
    some (.normal,e,[(144, .cell (sceneL T' (o2:Nat) [x0,x1,x2]))]::X K2.1 false):=by
    refine⟨[(3, .ptr L 48 0),(4, .ptr L 64 0),(5, .ptr L 80 0),(6, .ptr L 96 0),(25, .sl .no 1 (es cInt C)),(26,i64 C.length),(27,i64 (i:Nat)),(39, .bool false)],?_⟩
    simp only[b29l2,sceneL,List.map_cons,List.map_nil]
    simp (maxSteps:=1000000) (disch:=first|omega|assumption|decide +kernel|(simp;done)|(simp;omega)|fail) [hXl,g48,g80,hv]
   obtain⟨e,hB⟩:=B
   have hY:reachY t k o2 f (K,false) [x0,x1,x2]=((K2,false),true):=by unfold reachY;rw[if_neg (by rw[hw];simp),hK2]
   rw[hY]
   refine(yld_run (ps:=[35]) (A:=b29l1) (B:=b29l2) (env:=reachE L C i) (ex:= .normal) (st:= .busy) (p:=none) (s3:=X K2.1 false) (by rw[top];rfl) rfl (e1:=[(3, .ptr L 48 0),(4, .ptr L 64 0),(5, .ptr L 80 0),(6, .ptr L 96 0),(9, .ptr (X K.1 false).length 144 0),(25, .sl .no 1 (es cInt C)),(26,i64 C.length),(27,i64 (i:Nat))]) (fr1:=[(144, .cell (sceneL T' (o2:Nat) [x0,x1,x2]))]) ?_ (hlen _ _ _ _) (e2:=e) (fr2:=[(144, .cell (sceneL T' (o2:Nat) [x0,x1,x2]))]) ?_ (by rw[gX];rfl)).trans ?_
   ·rw[←hAl];simp[b29l1,bindEnv,reachE]
   ·rw[put]
    exact(congrArg (fun q=>Run T _ _ ([_]::q)) (hX K.1 false)).trans hB
   ·have:=hyr false K2.1 .ready none
    simp only[yldE,yldB,this];rfl
  ·have B: ∃e,Run T b29l2 [(3, .ptr L 48 0),(4, .ptr L 64 0),(5, .ptr L 80 0),(6, .ptr L 96 0),(9, .ptr (X K.1 false).length 144 0),(25, .sl .no 1 (es cInt C)),(26,i64 C.length),(27,i64 (i:Nat))] ([(144, .cell (sceneL T' (o2:Nat) [x0,x1,x2]))]::X K.1 false)=
    some (.ret,e,[(144, .cell (sceneL T' (o2:Nat) [x0,x1,x2]))]::X K2.1 true):=by
    refine⟨[(6, .ptr L 96 0)],?_⟩
    simp only[b29l2,sceneL,List.map_cons,List.map_nil]
    simp (maxSteps:=1000000) (disch:=first|omega|assumption|decide +kernel|(simp;done)|(simp;omega)|fail) [hXl,hXll,g48,g80,g96,hv,hpX]
   obtain⟨e,hB⟩:=B
   have hY:reachY t k o2 f (K,false) [x0,x1,x2]=((K2,true),false):=by unfold reachY;rw[if_pos hw,hK2]
   rw[hY]
   refine(yld_run (ps:=[35]) (A:=b29l1) (B:=b29l2) (env:=reachE L C i) (ex:= .ret) (st:= .busy) (p:=none) (s3:=X K2.1 true) (by rw[top];rfl) rfl (e1:=[(3, .ptr L 48 0),(4, .ptr L 64 0),(5, .ptr L 80 0),(6, .ptr L 96 0),(9, .ptr (X K.1 false).length 144 0),(25, .sl .no 1 (es cInt C)),(26,i64 C.length),(27,i64 (i:Nat))]) (fr1:=[(144, .cell (sceneL T' (o2:Nat) [x0,x1,x2]))]) ?_ (hlen _ _ _ _) (e2:=e) (fr2:=[(144, .cell (sceneL T' (o2:Nat) [x0,x1,x2]))]) ?_ (by rw[gX];rfl)).trans ?_
   ·rw[←hAl];simp[b29l1,bindEnv,reachE]
   ·rw[put]
    exact(congrArg (fun q=>Run T _ _ ([_]::q)) (hX K.1 false)).trans hB
   ·have:=hyr true K2.1 .done (some .ret)
    simp only[yldE,yldB,this];rfl
end Go.Proofs.YtmgkcipcjabigaaGreatDoor

/-
  Doors: reaches, the whole.
-/
namespace Go.Proofs.YtmgkcipcjabigaaGreatDoor
open Go.Ab
theorem foldB_anyC {α σ:Type}(p:α→Bool)(f:σ→α→σ): ∀(l:List α) (a:σ),∃a',foldB (fun(q:σ×Bool) x=>if p x=true then((f q.1 x,true),false)else((f q.1 x,false),true)) l (a,false)=((a',l.any p),!l.any p)
 |[],a=>⟨a,rfl⟩
 |x::l,a=>by
   simp only[foldB]
   cases hp:p x
   ·obtain⟨a',e⟩:=foldB_anyC p f l (f a x)
    exact⟨a',by simp only[Bool.false_eq_true,if_false,if_true,List.any_cons,hp,Bool.false_or];exact e⟩
   ·exact⟨f a x,by simp[hp]⟩
theorem foldB_not {α σ:Type} {f:σ→α→σ×Bool} {p:α→Bool}: ∀ {l:List α} {a:σ},(∀a x,x∈l→(f a x).2= !p x)→(foldB f l a).2= !l.any p
 |[],a,_=>rfl
 |x::l,a,h=>by
   have hx:=h a x (by simp)
   simp only[foldB,List.any_cons]
   cases hp:p x
   ·rw[hp]at hx
    simp only[Bool.not_false]at hx
    rw[if_pos hx,foldB_not fun a y hy=>h a y (by simp[hy])];rfl
   ·rw[hp]at hx
    simp only[Bool.not_true]at hx
    rw[if_neg (by rw[hx];simp),hx];rfl
theorem reach_fold(t:DTrap)(k o2:Nat)(f)(n:List Int)(K:MemC t):(foldD t o2 n (reachY t k o2 f) (K,false)).1.2=((movesO t o2 n).any fun m=>cO t k o2 (m ++n.drop t.groups.length))∧(foldD t o2 n (reachY t k o2 f) (K,false)).2= !((movesO t o2 n).any fun m=>cO t k o2 (m ++n.drop t.groups.length)):=by
 obtain⟨a',e⟩:=foldB_anyC (fun m=>cO t k o2 (m ++n.drop t.groups.length)) (fun(K:MemC t) m=>f o2 (m ++n.drop t.groups.length) K) (movesO t o2 n) K
 have:foldD t o2 n (reachY t k o2 f) (K,false)=_:=e
 rw[this]
 exact⟨rfl,rfl⟩
def stepC(t:DTrap)(k:Nat)(f:Nat→List Int→MemC t→MemC t)(o:Nat)(n:List Int)(K:MemC t)(c:Nat):MemC t×Bool:=
 ((foldD t (xorN o c) n (reachY t k (xorN o c) f) (K,false)).1.1,(foldD t (xorN o c) n (reachY t k (xorN o c) f) (K,false)).2)
def canK(t:DTrap):Nat→Nat→List Int→MemC t→MemC t
 |0,_,_,K=>K
 |k+1,o,n,K=>if 0<(kvGet K.1 (keyD (k+1) o n)).getD 0 then K else
   if (foldB (stepC t k (canK t k) o n) (cN t) K).2=true then(foldB (stepC t k (canK t k) o n) (cN t) K).1.put (keyD (k+1) o n)else(foldB (stepC t k (canK t k) o n) (cN t) K).1
theorem canK_keep(t:DTrap)(k:Nat): ∀(o:Nat) (n:List Int) (K:MemC t) (key:List Int),(k:Int)<key.headD 0→kvGet (canK t k o n K).1 key=kvGet K.1 key:=by
 induction k with
 |zero=>intro o n K key _;rfl
 |succ k ih=>
   intro o n K key hk
   have hs: ∀(a:MemC t) c,kvGet (stepC t k (canK t k) o n a c).1.1 key=kvGet a.1 key:=fun a c=>by
    refine foldB_inv (I:=fun q:MemC t×Bool=>kvGet q.1.1 key=kvGet a.1 key) (fun q x _ hq=> ?_) rfl
    simp only[reachY]
    split<;>(simp only;rw[ih _ _ _ _ (by omega),hq])
   have hf:kvGet (foldB (stepC t k (canK t k) o n) (cN t) K).1.1 key=kvGet K.1 key:=foldB_inv (I:=fun a:MemC t=>kvGet a.1 key=kvGet K.1 key) (fun a x _ ha=>by rw[hs,ha]) rfl
   simp only[canK]
   split
   ·rfl
   ·split
    ·simp only[Mem.put]
     rw[kvGet_put,if_neg (fun e=>by rw[e]at hk;simp[keyD]at hk),hf]
    ·exact hf
theorem kvIdx_none: ∀ {kvs:List (List Int×Int)} {k:List Int},kvGet kvs k=none→kvIdx kvs k=kvs.length
 |[],_,_=>rfl
 |x::r,k,h=>by
   simp only[kvGet]at h
   split at h
   ·cases h
   ·rename_i hk
    simp only[kvIdx,if_neg hk,kvIdx_none h,List.length_cons]
theorem kvPut_app: ∀ {kvs:List (List Int×Int)} {k:List Int} (v:Int),kvGet kvs k=none→kvPut kvs k v=kvs ++[(k,v)]
 |[],_,_,_=>rfl
 |x::r,k,v,h=>by
   simp only[kvGet]at h
   split at h
   ·cases h
   ·rename_i hk
    simp only[kvPut,if_neg hk,kvPut_app v h,List.cons_append]
theorem kvSet_put {kvs:List (List Int×Int)} {k:List Int}(h:kvGet kvs k=none)(v:Int):kvSet (kvPut kvs k 0) (kvIdx kvs k) v=kvPut kvs k v:=by
 rw[kvPut_app _ h,kvPut_app _ h,kvIdx_none h]
 unfold kvSet
 apply List.ext_getElem?
 intro i
 rw[List.getElem?_modify]
 by_cases hi:kvs.length=i
 ·subst hi;simp
 ·simp only[if_neg hi]
  by_cases hl:i<kvs.length
  ·simp[List.getElem?_append,hl]
  ·rw[List.getElem?_eq_none (by simp;omega),List.getElem?_eq_none (by simp;omega)];rfl
def reachOps:List AOper:=[⟨some 41, .load none (.t 5),none,[],[]⟩,⟨some 42, .load (some 5) (.t 4),none,[],[]⟩,⟨some 43, .mget (some 5) false (.t 41) (.t 42),none,[0,1],[999999]⟩,⟨some 44, .bin .add (.t 43) (.c (i64 1)),none,[2,0,1],[999999]⟩,⟨some 45, .ment (some 5) (.t 41) (.t 42),none,[0,1],[]⟩,⟨some 46, .ext (.t 45) 1,none,[4,0,1],[]⟩,⟨none, .mest (.t 41) (.t 46) (.t 44),none,[3,5,2,4,0,1],[]⟩]
theorem reachOps_pre: ∀(i:Nat) o,reachOps[i]? =some o→ ∀p∈o.pre,p<i:=by
 intro i o h
 match i with
 |0|1|2|3|4|5|6=>simp[reachOps]at h;subst h;simp
 |i+7=>simp[reachOps]at h
structure ReachI(mp:V)(cs:List V)(ix:Int)(p4 p5 p6:V)(done:List Nat)(e:Env):Prop where
 g4:e.get 4=p4
 g5:e.get 5=p5
 g6:e.get 6=p6
 h0:0∈done→e.get 41=mp
 h1:1∈done→e.get 42= .agg cs
 h2:2∈done→e.get 43=i64 0
 h3:3∈done→e.get 44=i64 1
 h4:4∈done→e.get 45= .tup [i64 0,i64 ix]
 h5:5∈done→e.get 46=i64 ix
 c6:6∈done→4∈done
 c26:6∈done→2∈done
set_option maxHeartbeats 4000000 in
theorem reach_region {t:DTrap} {C:List Int} {m:V} {dg lg dm lm L:Nat} {S:List (List Int×Int)→Stk}(G:GameD t C m dg lg dm lm L S)(F:Ab.Loc)(a0 a1 a2 a3 a4:Int)(hF:F.get 80=some (.cell [.mp (.ptr dm lm 0)]))(hF2:F.get 64=some (.cell [i64 a0,i64 a1,i64 a2,i64 a3,i64 a4]))
 (kvs:List (List Int×Int)) (hn0:kvGet kvs [a0,a1,a2,a3,a4]=none) (e0:Env) (x4:e0.get 4= .ptr L 64 0) (x5:e0.get 5= .ptr L 80 0) (x6:e0.get 6= .ptr L 96 0):
 runAny T (Run T) reachOps [6] reachOps [] e0 (F::S kvs)=some ([(6, .ptr L 96 0)],F::S (kvPut kvs [a0,a1,a2,a3,a4] 1)):=by
 have hm: ¬dm=L:=by have:=G.ltm;omega
 have hL:=G.len
 have hidx:=kvIdx_none hn0
 have hset:=kvSet_put hn0 1
 have hlen:(kvPut kvs [a0,a1,a2,a3,a4] 0).length=kvs.length+1:=by rw[kvPut_app _ hn0];simp
 have hnp:kvGet (kvPut kvs [a0,a1,a2,a3,a4] 0) [a0,a1,a2,a3,a4]=some 0:=by rw[kvGet_put,if_pos rfl]
 have f80: ∀K,sget (F::S K) L 80=some (.cell [.mp (.ptr dm lm 0)]):=fun K=>by rw[←hL K,sget_top,hF]
 have f64: ∀K,sget (F::S K) L 64=some (.cell [i64 a0,i64 a1,i64 a2,i64 a3,i64 a4]):=fun K=>by rw[←hL K,sget_top,hF2]
 have fm: ∀K,sget (F::S K) dm lm=some (.mp (some 5) K):=fun K=>by rw[sget_cons,if_neg (by rw[hL];exact hm),G.mem]
 have pm: ∀K K',sput (F::S K) dm lm (.mp (some 5) K')=F::S K':=fun K K'=>by rw[sput_cons,if_neg (by rw[hL];exact hm),G.put]
 rw[hidx]at hset
 generalize hP0:kvPut kvs [a0,a1,a2,a3,a4] 0=P0 at*
 generalize hP1:kvPut kvs [a0,a1,a2,a3,a4] 1=P1 at*
 refine runAny_start (fun done e s=>ReachI (.mp (.ptr dm lm 0)) [i64 a0,i64 a1,i64 a2,i64 a3,i64 a4] (kvs.length:Nat) (.ptr L 64 0) (.ptr L 80 0) (.ptr L 96 0) done e∧s=F::S (if 6∈done then P1 else if 4∈done then P0 else kvs)) _ ?_ ?_ ?_
 ·exact⟨⟨x4,x5,x6,by simp,by simp,by simp,by simp,by simp,by simp,by simp,by simp⟩,by simp⟩
 ·intro done e s ⟨h,hs⟩ hr
  have hall:=ready_all hr reachOps_pre
  simp[Env.only,h.g6,hs,hall 6 (by simp[reachOps])]
 ·intro done e s i o ⟨h,hs⟩ ho hn hp
  match i with
  |0=>
    simp[reachOps]at ho;subst ho
    rw[hs]at*
    refine⟨(41, .mp (.ptr dm lm 0))::e,F::S (if 6∈done then P1 else if 4∈done then P0 else kvs),by simp[h.g5,f80],⟨⟨by simp[h.g4],by simp[h.g5],by simp[h.g6],fun _=>by simp,fun hm=>by have:=h.h1 (by simpa using hm);simpa using this,fun hm=>by have:=h.h2 (by simpa using hm);simpa using this,fun hm=>by have:=h.h3 (by simpa using hm);simpa using this,fun hm=>by have:=h.h4 (by simpa using hm);simpa using this,fun hm=>by have:=h.h5 (by simpa using hm);simpa using this,fun hm=>by have:=h.c6 (by simpa using hm);simp[this],fun hm=>by have:=h.c26 (by simpa using hm);simp[this]⟩,by simp⟩⟩
  |1=>
    simp[reachOps]at ho;subst ho
    rw[hs]at*
    refine⟨(42, .agg [i64 a0,i64 a1,i64 a2,i64 a3,i64 a4])::e,F::S (if 6∈done then P1 else if 4∈done then P0 else kvs),by simp[h.g4,f64],⟨⟨by simp[h.g4],by simp[h.g5],by simp[h.g6],fun hm=>by have:=h.h0 (by simpa using hm);simpa using this,fun _=>by simp,fun hm=>by have:=h.h2 (by simpa using hm);simpa using this,fun hm=>by have:=h.h3 (by simpa using hm);simpa using this,fun hm=>by have:=h.h4 (by simpa using hm);simpa using this,fun hm=>by have:=h.h5 (by simpa using hm);simpa using this,fun hm=>by have:=h.c6 (by simpa using hm);simp[this],fun hm=>by have:=h.c26 (by simpa using hm);simp[this]⟩,by simp⟩⟩
  |2=>
    simp[reachOps]at ho;subst ho
    have m0:=hp 0 (by simp)
    have m1:=hp 1 (by simp)
    have hg0:(kvGet (if 6∈done then P1 else if 4∈done then P0 else kvs) [a0,a1,a2,a3,a4]).getD 0=0:=by
     have n6:6∉done:=fun h6=>hn (h.c26 h6)
     rw[if_neg n6]
     split
     ·rw[hnp];rfl
     ·rw[hn0];rfl
    rw[hs]at*
    refine⟨(43,i64 0)::e,F::S (if 6∈done then P1 else if 4∈done then P0 else kvs),by simp[h.h0 m0,h.h1 m1,fm,hg0],⟨⟨by simp[h.g4],by simp[h.g5],by simp[h.g6],fun hm=>by have:=h.h0 (by simpa using hm);simpa using this,fun hm=>by have:=h.h1 (by simpa using hm);simpa using this,fun _=>by simp,fun hm=>by have:=h.h3 (by simpa using hm);simpa using this,fun hm=>by have:=h.h4 (by simpa using hm);simpa using this,fun hm=>by have:=h.h5 (by simpa using hm);simpa using this,fun hm=>by have:=h.c6 (by simpa using hm);simp[this],fun hm=>by have:=h.c26 (by simpa using hm);simp[this]⟩,by simp⟩⟩
  |3=>
    simp[reachOps]at ho;subst ho
    have m0:=hp 0 (by simp)
    have m1:=hp 1 (by simp)
    have m2:=hp 2 (by simp)
    refine⟨(44,i64 1)::e,s,by simp[h.h2 m2,show IntKind.i64.wrap 1=1 by decide],⟨⟨by simp[h.g4],by simp[h.g5],by simp[h.g6],fun hm=>by have:=h.h0 (by simpa using hm);simpa using this,fun hm=>by have:=h.h1 (by simpa using hm);simpa using this,fun hm=>by have:=h.h2 (by simpa using hm);simpa using this,fun _=>by simp,fun hm=>by have:=h.h4 (by simpa using hm);simpa using this,fun hm=>by have:=h.h5 (by simpa using hm);simpa using this,fun hm=>by have:=h.c6 (by simpa using hm);simp[this],fun hm=>by have:=h.c26 (by simpa using hm);simp[this]⟩,by simpa using hs⟩⟩
  |4=>
    simp[reachOps]at ho;subst ho
    have m0:=hp 0 (by simp)
    have m1:=hp 1 (by simp)
    have n6:6∉done:=fun h6=>hn (h.c6 h6)
    rw[if_neg n6,if_neg hn]at hs
    subst hs
    refine⟨(45, .tup [i64 0,i64 (kvs.length:Nat)])::e,F::S P0,by simp[h.h0 m0,h.h1 m1,fm,pm,hn0,hidx,hP0],⟨⟨by simp[h.g4],by simp[h.g5],by simp[h.g6],fun hm=>by have:=h.h0 (by simpa using hm);simpa using this,fun hm=>by have:=h.h1 (by simpa using hm);simpa using this,fun hm=>by have:=h.h2 (by simpa using hm);simpa using this,fun hm=>by have:=h.h3 (by simpa using hm);simpa using this,fun _=>by simp,fun hm=>by have:=h.h5 (by simpa using hm);simpa using this,fun hm=>by have:=h.c6 (by simpa using hm);simp[this],fun hm=>by have:=h.c26 (by simpa using hm);simp[this]⟩,by simp[n6]⟩⟩
  |5=>
    simp[reachOps]at ho;subst ho
    have m0:=hp 0 (by simp)
    have m1:=hp 1 (by simp)
    have m4:=hp 4 (by simp)
    refine⟨(46,i64 (kvs.length:Nat))::e,s,by simp[h.h4 m4],⟨⟨by simp[h.g4],by simp[h.g5],by simp[h.g6],fun hm=>by have:=h.h0 (by simpa using hm);simpa using this,fun hm=>by have:=h.h1 (by simpa using hm);simpa using this,fun hm=>by have:=h.h2 (by simpa using hm);simpa using this,fun hm=>by have:=h.h3 (by simpa using hm);simpa using this,fun hm=>by have:=h.h4 (by simpa using hm);simpa using this,fun _=>by simp,fun hm=>by have:=h.c6 (by simpa using hm);simp[this],fun hm=>by have:=h.c26 (by simpa using hm);simp[this]⟩,by simpa using hs⟩⟩
  |6=>
    simp[reachOps]at ho;subst ho
    have m0:=hp 0 (by simp)
    have m1:=hp 1 (by simp)
    have m2:=hp 2 (by simp)
    have m3:=hp 3 (by simp)
    have m4:=hp 4 (by simp)
    have m5:=hp 5 (by simp)
    rw[if_neg hn,if_pos m4]at hs
    subst hs
    refine⟨e,F::S P1,by simp[h.h0 m0,h.h5 m5,h.h3 m3,fm,pm,hlen,hset,show(kvs.length:Int)<(kvs.length:Int)+1 by omega],⟨⟨by simp[h.g4],by simp[h.g5],by simp[h.g6],fun hm=>by have:=h.h0 (by simpa using hm);simpa using this,fun hm=>by have:=h.h1 (by simpa using hm);simpa using this,fun hm=>by have:=h.h2 (by simpa using hm);simpa using this,fun hm=>by have:=h.h3 (by simpa using hm);simpa using this,fun hm=>by have:=h.h4 (by simpa using hm);simpa using this,fun hm=>by have:=h.h5 (by simpa using hm);simpa using this,fun hm=>by simp[m4],fun hm=>by simp[m2]⟩,by simp⟩⟩
  |i+7=>simp[reachOps]at ho
end Go.Proofs.YtmgkcipcjabigaaGreatDoor

/-
  Doors: reaches, the end.
-/
namespace Go.Proofs.YtmgkcipcjabigaaGreatDoor
open Go.Ab
theorem caught_take(n:Nat): ∀(f p:List Int) (k:Nat),f.length≤k→caughtS n f (p.take k)=caughtS n f p:=by
 intro f
 induction f with
 |nil=>intro p k _;simp[caughtS]
 |cons x f ih=>
   intro p k hk
   cases p with
   |nil=>simp
   |cons y p=>
     cases k with
     |zero=>simp at hk
     |succ k=>simp only[List.take_succ_cons,caughtS,ih p k (by simpa using hk)]
abbrev RetG(L:Nat):= {p:Env×Ab.Loc//p.1.get 6= .ptr L 96 0∧p.2.get 96=some (.cell [.bool true])}
instance (L:Nat):Inhabited (RetG L):=⟨⟨([(6, .ptr L 96 0)],[(96, .cell [.bool true])]),rfl,rfl⟩⟩
set_option maxHeartbeats 8000000 in
theorem e_reaches {t:DTrap}(h:DoorOk t)(k:Nat):k≤4→CanD t (chB t) k (canK t k):=by
 induction k with
 |zero=>
   intro _ m dg lg dm lm L S G o n K lab ho hn
   obtain⟨x0,x1,x2,rfl⟩: ∃x0 x1 x2,n=[x0,x1,x2]:=by
    match n,hn.1 with
    |[x0,x1,x2],_=>exact⟨x0,x1,x2,rfl⟩
   have hL:=G.len K.1
   have hd:=G.ltg
   have hc:=fun lab=>e_caught t h.ol h.ch (fun g hg=>(h.groups g hg).2) (chB t) m x0 x1 x2 dg lg ([(48, .cell [.ptr dg lg 0]),(64, .cell [i64 0,i64 (o:Nat),i64 x0,i64 x1,i64 x2]),(80, .cell [.mp (.ptr dm lm 0)]),(96, .cell [.bool false])]::S K.1) (by simp only[List.length_cons];omega) (by rw[sget_cons,if_neg (by omega),G.game]) lab
   have e:cO t 0 o [x0,x1,x2]=decide (0<caughtS t.chambers.toNat (fishL t) [x0,x1,x2]):=by
    unfold cO
    simp only[canG]
    rw[caught_take _ _ _ _ (by simp[fishL])]
   rw[e]
   simp only[canK]
   generalize caughtS t.chambers.toNat (fishL t) [x0,x1,x2]=w at*
   generalize S K.1=X at*
   subst hL
   simp only[sceneL,List.map_cons,List.map_nil,Int.natCast_zero]
   change den T _ [_, .agg [i64 0,_,_,_,_],_] _ _=_
   rw[den_fn t29 _ _ _ rfl]
   simp only[b29]
   simp (maxSteps:=1000000) (disch:=first|omega|assumption|decide +kernel|(simp;done)|(simp;omega)|fail) [hc]
 |succ k ih0=>
   intro hk m dg lg dm lm L S G o n K lab ho hn
   have ih:= @ih0 (by omega)
   obtain⟨x0,x1,x2,rfl⟩: ∃x0 x1 x2,n=[x0,x1,x2]:=by
    match n,hn.1 with
    |[x0,x1,x2],_=>exact⟨x0,x1,x2,rfl⟩
   have hL:=G.len
   have hd:=G.ltg
   have hd2:=G.ltm
   have e1: ¬dg=L:=by omega
   have e2: ¬dm=L:=by omega
   have hga:=G.game
   have hme:=G.mem
   have hpu:=G.put
   have hw:=cKey_key t (k+1) o (n:=[x0,x1,x2]) rfl
   have hT:(((k+1:Nat):Int)=0)=False:=by simp;omega
   have hkk:((k+1:Nat):Int)-1=(k:Nat):=by omega
   have hsc:=cO_succ h k o hn
   have hcl:(chB t).length=(cN t).length:=by simp[chB,natI]
   have hlen:(cN t).length≤32:=by rw[←hcl];exact(chB_len h).2.2
   have key:=loop_list_e (T:=Go.Proofs.YtmgkcipcjabigaaGreatDoor.T) (γ:=RetG L) (live:=[3,4,5,6,25,26,27]) (keep:=[48,64,80,96,256]) (b:=d29l0) (cN t) (fun _ (_:MemC t)=>True)
    (fun j _=>[(3, .ptr L 48 0),(4, .ptr L 64 0),(5, .ptr L 80 0),(6, .ptr L 96 0),(25, .sl .no 1 (es cInt (chB t))),(26,i64 (chB t).length),(27,i64 (j:Nat))])
    (fun _ K=>[(48, .cell [.ptr dg lg 0]),(64, .cell [i64 ((k+1:Nat):Int),i64 (o:Nat),i64 x0,i64 x1,i64 x2]),(80, .cell [.mp (.ptr dm lm 0)]),(96, .cell [.bool false])]::S K.1)
    (stepC t k (canK t k) o [x0,x1,x2])
    (fun g K=>(.ret,g.1.1,g.1.2::S K.1))
    (fun K=>(.exit 0,[(3, .ptr L 48 0),(4, .ptr L 64 0),(5, .ptr L 80 0),(6, .ptr L 96 0),(25, .sl .no 1 (es cInt (chB t))),(26,i64 (chB t).length),(27,i64 (cN t).length),(28, .bool false)],[(48, .cell [.ptr dg lg 0]),(64, .cell [i64 ((k+1:Nat):Int),i64 (o:Nat),i64 x0,i64 x1,i64 x2]),(80, .cell [.mp (.ptr dm lm 0)]),(96, .cell [.bool false])]::S K.1))
    (by simp) (by simp) ?_ ?_ K trivial [(3, .ptr L 48 0),(4, .ptr L 64 0),(5, .ptr L 80 0),(6, .ptr L 96 0),(25, .sl .no 1 (es cInt (chB t))),(26,i64 (chB t).length),(27,i64 0)] ([(48, .cell [.ptr dg lg 0]),(64, .cell [i64 ((k+1:Nat):Int),i64 (o:Nat),i64 x0,i64 x1,i64 x2]),(80, .cell [.mp (.ptr dm lm 0)]),(96, .cell [.bool false])]::S K.1) (by simp[hL,e1,e2]) (by simp[hL,e1,e2])
   ·obtain⟨g,hg⟩:=key
    change Run Go.Proofs.YtmgkcipcjabigaaGreatDoor.T b29l0 _ _=_ at hg
    have hany:(foldB (stepC t k (canK t k) o [x0,x1,x2]) (cN t) K).2= !cO t (k+1) o [x0,x1,x2]:=by
     rw[hsc]
     exact foldB_not fun a c _=>(reach_fold t k (xorN o c) (canK t k) [x0,x1,x2] a).2
    have hkeep:kvGet (foldB (stepC t k (canK t k) o [x0,x1,x2]) (cN t) K).1.1 (keyD (k+1) o [x0,x1,x2])=kvGet K.1 (keyD (k+1) o [x0,x1,x2]):=by
     refine foldB_inv (I:=fun a:MemC t=>kvGet a.1 (keyD (k+1) o [x0,x1,x2])=kvGet K.1 (keyD (k+1) o [x0,x1,x2])) (fun a c _ ha=> ?_) rfl
     rw[←ha]
     refine foldB_inv (I:=fun q:MemC t×Bool=>kvGet q.1.1 (keyD (k+1) o [x0,x1,x2])=kvGet a.1 (keyD (k+1) o [x0,x1,x2])) (fun q x _ hq=> ?_) rfl
     simp only[reachY]
     split<;>(simp only;rw[canK_keep _ _ _ _ _ _ (by simp[keyD];omega),hq])
    have hr: ∀v,kvGet K.1 (keyD (k+1) o [x0,x1,x2])=some v→v=if cO t (k+1) o [x0,x1,x2]=true then 0 else 1:=fun v hv=>by rw[←hw];exact K.2 _ _ hv
    simp only[canK]
    rw[hany]at hg⊢
    obtain⟨⟨ge,gl⟩,hg1,hg2⟩:=g
    simp only at hg1 hg2 hg
    generalize foldB (stepC t k (canK t k) o [x0,x1,x2]) (cN t) K=Q at*
    obtain⟨K2,bb⟩:=Q
    simp only at hkeep hg hany⊢
    simp only[keyD]at hr hkeep⊢
    by_cases hpos:0<(kvGet K.1 [((k+1:Nat):Int),(o:Nat),x0,x1,x2]).getD 0
    ·have hco:cO t (k+1) o [x0,x1,x2]=false:=by
      cases hv:kvGet K.1 [((k+1:Nat):Int),(o:Nat),x0,x1,x2]with
      |none=>rw[hv]at hpos;simp at hpos
      |some v=>
        have:=hr v hv
        rw[hv]at hpos
        simp only[Option.getD_some]at hpos
        cases hc:cO t (k+1) o [x0,x1,x2]
        ·rfl
        ·rw[hc,if_pos rfl]at this;omega
     rw[if_pos hpos,hco]
     simp only[sceneL,List.map_cons,List.map_nil]
     generalize hTT:((k+1:Nat):Int)=T1 at*
     rw[den_fn t29 _ _ _ rfl]
     simp only[b29]
     simp (maxSteps:=1000000) (disch:=first|omega|assumption|decide +kernel|(simp;done)|(simp;omega)|fail) [hL,hga,hme,e1,e2,hT,hpos]
    ·rw[if_neg hpos]
     simp only[sceneL,List.map_cons,List.map_nil]
     cases hco:cO t (k+1) o [x0,x1,x2]
     ·have hnone:kvGet K2.1 [((k+1:Nat):Int),(o:Nat),x0,x1,x2]=none:=by
       rw[hkeep]
       cases hv:kvGet K.1 [((k+1:Nat):Int),(o:Nat),x0,x1,x2]with
       |none=>rfl
       |some v=>
         have:=hr v hv
         rw[hco]at this
         rw[hv]at hpos
         simp at this hpos
         omega
      rw[hco]at hg
      simp only[Bool.not_false,if_true]at hg⊢
      have hput:(K2.put [((k+1:Nat):Int),(o:Nat),x0,x1,x2]).1=kvPut K2.1 [((k+1:Nat):Int),(o:Nat),x0,x1,x2] 1:=by
       show kvPut _ _ (cKey t (keyD (k+1) o [x0,x1,x2]))=_
       rw[hw,hco];rfl
      rw[hput]
      have hreg:=reach_region G [(48, .cell [.ptr dg lg 0]),(64, .cell [i64 ((k+1:Nat):Int),i64 (o:Nat),i64 x0,i64 x1,i64 x2]),(80, .cell [.mp (.ptr dm lm 0)]),(96, .cell [.bool false])] ((k+1:Nat):Int) (o:Nat) x0 x1 x2 rfl rfl K2.1 hnone [(3, .ptr L 48 0),(4, .ptr L 64 0),(5, .ptr L 80 0),(6, .ptr L 96 0),(25, .sl .no 1 (es cInt (chB t))),(26,i64 (chB t).length),(27,i64 (cN t).length),(28, .bool false)] rfl rfl rfl
      simp only[reachOps]at hreg
      generalize hTT:((k+1:Nat):Int)=T1 at*
      generalize chB t=C at*
      rw[den_fn t29 _ _ _ rfl]
      simp only[b29]
      simp (maxSteps:=1000000) (disch:=first|omega|assumption|decide +kernel|(simp;done)|(simp;omega)|fail) [run_each2,hL,hga,hme,e1,e2,hT,hpos,hg,hreg]
     ·rw[hco]at hg
      simp only[Bool.not_true,Bool.false_eq_true,if_false]at hg⊢
      generalize hTT:((k+1:Nat):Int)=T1 at*
      generalize chB t=C at*
      rw[den_fn t29 _ _ _ rfl]
      simp only[b29]
      simp (maxSteps:=1000000) (disch:=first|omega|assumption|decide +kernel|(simp;done)|(simp;omega)|fail) [hL,hga,hme,e1,e2,hT,hpos,hg,hg1,hg2]
   ·intro j K2 hj _
    have hj2:(j:Int)<(chB t).length:=by omega
    have hj3:j<(chB t).length:=by omega
    have hcj:(chB t)[j]=((cN t)[j]:Int):=by simp[chB,natI]
    have hc:=cN_lt h (List.getElem_mem hj)
    generalize (cN t)[j]=c at*
    have ho2:xorN o c<32:=Nat.xor_lt_two_pow (n:=5) ho hc
    have y:=reach_yield t (chB t) k (canK t k) ih G j ((k+1:Nat):Int) (((k+1:Nat):Int)-1) hkk o (xorN o c) ho2 [x0,x1,x2]
    obtain⟨n',hn',hl⟩:=e_loopD t h ho2 hn y (K2,false) rfl
    have hm:=fun(loc:Ab.Loc) lab=>e_moves ((k+1:Nat):Int) o c (by omega) x0 x1 x2 ho hc dg lg lab loc (S K2.1) (by rw[hL];omega)
    obtain⟨r1,r2⟩:=reach_fold t k (xorN o c) (canK t k) [x0,x1,x2] K2
    unfold stepC
    generalize foldD t (xorN o c) [x0,x1,x2] (reachY t k (xorN o c) (canK t k)) (K2,false)=Q at*
    obtain⟨⟨K3,fb⟩,bb⟩:=Q
    simp only at r1 r2 hl⊢
    rw[←r1]at r2
    subst r2
    clear r1 y ih ih0
    simp only[hL]at hm
    simp only[reachSt,reachF,reachE,sceneL,List.map_cons,List.map_nil,Nat.reduceAdd]at hl hm
    generalize xorN o c=o2 at*
    generalize hTT:((k+1:Nat):Int)=T1 at*
    generalize chB t=C at*
    cases fb
    ·refine⟨fun _=>⟨?_,trivial⟩,fun hb=>by simp at hb⟩
     simp only[Bool.false_eq_true,if_false]at hl
     simp (maxSteps:=1000000) (disch:=first|omega|assumption|decide +kernel|(simp;done)|(simp;omega)|fail) [hj,hj2,hj3,hcj,hL,hga,e1,e2,hm,hl,wk j (by omega)]
    ·refine⟨fun hb=>by simp at hb,fun _=>⟨⟨([(3, .ptr L 48 0),(4, .ptr L 64 0),(5, .ptr L 80 0),(6, .ptr L 96 0),(25, .sl .no 1 (es cInt C)),(26,i64 C.length),(27,i64 (j:Nat)),(34, .fn 62 [] [.ptr L 544 0, .ptr L 1544 0, .ptr L 2544 0])],
      [(48, .cell [.ptr dg lg 0]),(64, .cell [i64 T1,i64 (o:Nat),i64 x0,i64 x1,i64 x2]),(80, .cell [.mp (.ptr dm lm 0)]),(96, .cell [.bool true]),(544, .cell [.ptr dg lg 0]),(1544, .cell (i64 (T1-1)::i64 (o2:Nat)::n'.map i64)),(2544, .cell [i64 T1,i64 (o:Nat),i64 x0,i64 x1,i64 x2]),
        (7431, .loop [35] b29l1 b29l2 [] .exhausted (some .ret))]),rfl,rfl⟩,?_⟩⟩
     simp only[Bool.false_eq_true,if_false,if_true]at hl
     simp (maxSteps:=1000000) (disch:=first|omega|assumption|decide +kernel|(simp;done)|(simp;omega)|fail) [hj,hj2,hj3,hcj,hL,hga,e1,e2,hm,hl,wk j (by omega)]
   ·intro K2 _
    simp[hcl]
end Go.Proofs.YtmgkcipcjabigaaGreatDoor

/-
  Doors: Catch.
-/
namespace Go.Proofs.YtmgkcipcjabigaaGreatDoor
open Go.Ab
theorem GameD.topM {t C} {s:Stk} {m:V} {lg lm:Nat} {X:List (List Int×Int)→Ab.Loc}(hg: ∀K,(X K).get lg=some (.cell (gameV t C m)))(hm: ∀K,(X K).get lm=some (.mp (some 5) K))(hp: ∀K K',(X K).put lm (.mp (some 5) K')=X K'):
 GameD t C m s.length lg s.length lm (s.length+1) (fun K=>X K::s) where
 len:=fun K=>by simp
 ltg:=by omega
 ltm:=by omega
 game:=fun K=>by rw[sget_top,hg]
 mem:=fun K=>by rw[sget_top,hm]
 put:=fun K K'=>by rw[sput_top,hp]
def aloneT(t:DTrap):DTrap:= {t with groups:=[⟨0,1⟩]}
theorem alone_ok {t:DTrap}(h:DoorOk t):DoorOk (aloneT t) where
 ch:=h.ch
 tu:=h.tu
 ha:=h.ha
 gl:=h.gl
 ol:=by simp[aloneT]
 gates:=h.gates
 groups:=fun g hg=>by
  simp only[aloneT,List.mem_singleton]at hg
  subst hg
  have:=h.ch
  have e:(aloneT t).chambers=t.chambers:=rfl
  rw[e]
  simp only
  omega
def oneN(p:Int):List Int:=[p,0,0]
def catchV(t:DTrap)(p:Int):Int:=if wO (aloneT t) t.turns.toNat (gN t) (oneN p)=1 then 1 else if cO (aloneT t) t.turns.toNat (gN t) (oneN p)=false then 2 else 3
def posOf(t:DTrap)(g:Int):Int:=(posL t).getD g.toNat 0
def catchR(t:DTrap)(g:Int):Int×Int:=if doorB t=true then(if wiB g 0 (t.groups.length-1)=true then(catchV t (posOf t g),0)else(0,1))else(0,30)
abbrev catchX(t:DTrap)(d:Nat)(p:Int)(K:List (List Int×Int)):Ab.Loc:=[(32, .cell (dV t)),(320, .cell (gameV t (chB t) (.mp (.ptr d 1320 0)))),(1320, .mp (some 5) []),(112, .cell (sceneV t.turns (gN t:Nat) p 0 0)),(464, .cell (gameV (aloneT t) (chB t) (.csl (.ptr d 1464 0) 0))),(1464, .mp (some 5) K),(160, .cell (scene0 t))]
set_option maxHeartbeats 8000000 in
theorem e_Catch(t:DTrap)(hs:ShortD t)(g:Int)(lab s):den T 14 [.agg (dV t),i64 g] lab s=some (.tup [i64 (catchR t g).1,i64 (catchR t g).2],s):=by
 have hgr:=hs.groups
 have w1:IntKind.i64.wrap ((t.groups.length:Int)-1)=(t.groups.length:Int)-1:=wi _ (by omega) (by omega)
 unfold catchR
 cases h:doorB t
 ·have hb:=fun b lab loc s=>e_begin_bad t hs h b lab loc s
  rw[den_fn t14 _ _ _ rfl]
  simp only[b14]
  simp (maxSteps:=1000000) (disch:=first|omega|assumption|decide +kernel|(simp;done)|(simp;omega)|fail) [run_drawnK,orSlow_none,hb,w1]
 ·have ho:=doorB_iff.1 h
  have htu:=ho.tu
  cases hw:wiB g 0 (t.groups.length-1)
  ·have hb:=fun lab loc s=>e_begin_arg t ho lab loc s
   rw[den_fn t14 _ _ _ rfl]
   simp only[b14]
   simp (maxSteps:=1000000) (disch:=first|omega|assumption|decide +kernel|(simp;done)|(simp;omega)|fail) [run_drawnK,orSlow_none,hb,w1,hw]
  ·have hgb:0≤g∧g≤t.groups.length-1:=by simpa [wiB]using hw
   have h3:=ho.ol
   have hb:=fun lab loc k0 k1=>e_begin t ho lab loc s k0 k1
   obtain⟨i,rfl⟩: ∃i:Nat,g=i:=⟨g.toNat,by omega⟩
   have hi:i<t.groups.length:=by omega
   have hp:posOf t (i:Nat)=at0 t i:=by
    rw[at0_get hi];simp[posOf,posL,hi]
   have ha:=alone_ok ho
   have hin:InN (aloneT t) (oneN (at0 t i)):=by
    refine⟨rfl,fun j hj=> ?_⟩
    have:j=0:=by simp[aloneT]at hj;omega
    subst this
    have:=(ho.groups _ (List.getElem_mem hi)).1
    rw[at0_get hi]
    exact this
   have hT:((t.turns.toNat:Nat):Int)=t.turns:=by omega
   have hv:=fun lab=>e_value ha t.turns.toNat (by omega) (GameD.topM (t:=aloneT t) (s:=s) (lg:=464) (lm:=1464) (X:=catchX t s.length (at0 t i)) (fun K=>rfl) (fun K=>rfl) (fun K K'=>rfl)) rfl (gN t) (oneN (at0 t i)) Mem.nil lab (gN_lt ho) hin
   have hr:=fun(K0:List (List Int×Int)) lab=>e_reaches ha t.turns.toNat (by omega) (GameD.topM (t:=aloneT t) (s:=s) (lg:=464) (lm:=848) (m:= .csl (.ptr s.length 1464 0) 0) (X:=fun K=>catchX t s.length (at0 t i) K0 ++[(848, .mp (some 5) K)]) (fun K=>rfl) (fun K=>rfl) (fun K K'=>rfl)) (gN t) (oneN (at0 t i)) Mem.nil lab (gN_lt ho) hin
   rw[hT]at hv hr
   simp only[Bool.false_eq_true,if_true,hp,catchV]
   have hk: ∀(a:List (List Int×Int)→Stk),True:=fun _=>trivial
   generalize wO (aloneT t) t.turns.toNat (gN t) (oneN (at0 t i))=w at*
   generalize cO (aloneT t) t.turns.toNat (gN t) (oneN (at0 t i))=b at*
   generalize valK (aloneT t) _ _ _ _=K1 at*
   generalize canK (aloneT t) _ _ _ _=K2 at*
   simp only[catchX,gN,scene0,sceneV,sceneL,oneN,List.map_cons,List.map_nil,List.cons_append,List.nil_append,Mem.nil_val,gameV,gcap,gmp,aloneT,show es cGroup [(⟨0,1⟩:DGroup)]=[[i64 0,i64 1]]from rfl]at hb hv hr
   generalize gateBits t.gates=o at*
   generalize chB t=C at*
   have hil:(i:Int)<3:=by omega
   have hwa: ∀z:Int,z=(i:Int)→wiB z 0 ((t.groups.length:Int)-1)=true:=fun z e=>by rw[e];exact hw
   by_cases hw1:w=1
   ·obtain rfl|rfl|rfl:i=0∨i=1∨i=2:=by omega
    all_goals
     (rw[den_fn t14 _ _ _ rfl]
      simp only[b14]
      simp (maxSteps:=1000000) (disch:=first|omega|assumption|decide +kernel|(simp;done)|(simp;omega)|fail) [run_drawnK,orSlow_none,w1,hwa,hb,hv,hr,hw1])
   ·cases b<;>(obtain rfl|rfl|rfl:i=0∨i=1∨i=2:=by omega)
    all_goals
     (rw[den_fn t14 _ _ _ rfl]
      simp only[b14]
      simp (maxSteps:=1000000) (disch:=first|omega|assumption|decide +kernel|(simp;done)|(simp;omega)|fail) [run_drawnK,orSlow_none,w1,hwa,hb,hv,hr,hw1])
end Go.Proofs.YtmgkcipcjabigaaGreatDoor

/-
  Doors, the law's helpers: Copy, Turning, ready, all, worth, after.
-/
namespace Go.Proofs.YtmgkcipcjabigaaGreatDoor
open Go.Ab
theorem e_CopyD(t:DTrap)(hs:ShortD t)(lab)(loc:Ab.Loc)(s:Stk)(k0:loc.get lab=none)(k1:loc.get (lab+1000)=none):
 den T 50 [.agg (dV t)] lab (loc::s)=some (.agg [i64 t.chambers,i64 t.turns,i64 t.hands, .asl s.length lab 3 t.gates.length 0 t.gates.length, .asl s.length (lab+1000) 2 t.groups.length 0 t.groups.length],
  (loc.put lab (.arr 3 (es cGate t.gates))).put (lab+1000) (.arr 2 (es cGroup t.groups))::s):=by
 have hg:=hs.gates
 have ho:=hs.groups
 rw[den_fn t50 _ _ _ rfl]
 simp only[b50]
 simp (maxSteps:=1000000) (disch:=first|omega|assumption|decide +kernel|(simp;done)|(simp;omega)|fail) [appmD_es,run_drawnK,orSlow_none,k0,k1]
end Go.Proofs.YtmgkcipcjabigaaGreatDoor

/-
  Doors, the reference: WaysOf, AreMoves.
-/
namespace Go.Proofs.YtmgkcipcjabigaaGreatDoor
open Go.Ab
end Go.Proofs.YtmgkcipcjabigaaGreatDoor

/-
  Doors, the reference: Changed, Moved.
-/
namespace Go.Proofs.YtmgkcipcjabigaaGreatDoor
open Go.Ab
def flip1(g:DGate):DGate:= {g with op:= !g.op}
def flipAll(c:List Int)(gs:List DGate):List DGate:=c.foldl (fun gs j=>gs.modify j.toNat flip1) gs
theorem flipAll_get: ∀(c:List Int) (gs:List DGate) (i:Nat),c.Pairwise (· < ·)→(∀y∈c,0≤y)→(flipAll c gs)[i]? =(gs[i]?).map fun g=>if (i:Int)∈c then flip1 g else g
 |[],gs,i,_,_=>by simp[flipAll]
 |j::c,gs,i,h,h0=>by
   have ih:=flipAll_get c (gs.modify j.toNat flip1) i (List.pairwise_cons.1 h).2 fun y hy=>h0 y (by simp[hy])
   have hj:=h0 j (by simp)
   have hr:=(List.pairwise_cons.1 h).1
   simp only[flipAll,List.foldl_cons]at ih⊢
   rw[ih,List.getElem?_modify]
   cases hg:gs[i]? with
   |none=>simp
   |some g=>
     by_cases e:j.toNat=i
     ·have e2:(i:Int)=j:=by omega
      have hn: ¬j∈c:=fun hc=>by have:=hr j hc;omega
      simp[e,e2,hn]
     ·have e2: ¬(i:Int)=j:=by omega
      simp[e,e2]
theorem flipAll_eq {c:List Int} {gs:List DGate}(h:c.Pairwise (· < ·))(h0: ∀y∈c,0≤y):flipAll c gs=flipG gs c:=by
 apply List.ext_getElem?
 intro i
 rw[flipAll_get c gs i h h0,flipS_get,Nat.zero_add];rfl
def changedT(t:DTrap)(c:List Int):DTrap:= {t with gates:=flipG t.gates c}
abbrev zeroT:List V:=[i64 0,i64 0,i64 0, .sl .full 3 [], .sl .full 2 []]
@[simp] theorem flipAt_len(gs:List DGate)(j:Nat):(gs.modify j flip1).length=gs.length:=by simp
theorem es_setGate(gs:List DGate)(j:Nat)(hj:j<gs.length)(a b:Int)(o:Bool)(h1:gs[j].a=a)(h2:gs[j].b=b)(h3:gs[j].op=o):(es cGate gs).set j [i64 a,i64 b, .bool (!o)]=es cGate (gs.modify j flip1):=by
 apply List.ext_getElem?
 intro i
 simp only[es,List.getElem?_set,List.getElem?_map,List.getElem?_modify,List.length_map]
 by_cases e:j=i
 ·subst e
  simp[hj,flip1,←h1,←h2,←h3]
 ·simp[e]
abbrev chgF(t:DTrap)(d:Nat)(gs:List DGate)(rs:List DGroup):Ab.Loc:=[(32, .cell (dV t)),(64, .cell zeroT),(144, .arr 3 (es cGate gs)),(1144, .arr 2 (es cGroup rs)),(80, .cell [i64 t.chambers,i64 t.turns,i64 t.hands, .asl d 144 3 t.gates.length 0 t.gates.length, .asl d 1144 2 t.groups.length 0 t.groups.length])]
set_option maxHeartbeats 4000000 in
theorem e_Changed_l(t:DTrap)(hs:ShortD t)(c:List Int)(hc:c.length<1000000000000)(hr: ∀y∈c,0≤y∧y<t.gates.length)(s:Stk):
 Run T b31l0 [(1, .sl .no 1 (es cInt c)),(4, .ptr s.length 64 0),(5, .ptr s.length 80 0),(6,i64 0)] (chgF t s.length t.gates t.groups::s)=
  some (.exit 0,[(1, .sl .no 1 (es cInt c)),(4, .ptr s.length 64 0),(5, .ptr s.length 80 0),(6,i64 c.length),(13, .bool false)],chgF t s.length (flipAll c t.gates) t.groups::s):=by
 have hgl:=hs.gates
 refine loop_fold (T:=Go.Proofs.YtmgkcipcjabigaaGreatDoor.T) (live:=[1,4,5,6]) (keep:=[32,64,80,144,1144]) (b:=d31l0) c (fun _ (gs:List DGate)=>gs.length=t.gates.length) (fun gs j=>gs.modify j.toNat flip1)
  (fun k _=>[(1, .sl .no 1 (es cInt c)),(4, .ptr s.length 64 0),(5, .ptr s.length 80 0),(6,i64 (k:Nat))]) (fun _ gs=>chgF t s.length gs t.groups::s)
  (fun gs=>(.exit 0,[(1, .sl .no 1 (es cInt c)),(4, .ptr s.length 64 0),(5, .ptr s.length 80 0),(6,i64 c.length),(13, .bool false)],chgF t s.length gs t.groups::s))
  (by simp) ?_ ?_ ?_ t.gates rfl [(1, .sl .no 1 (es cInt c)),(4, .ptr s.length 64 0),(5, .ptr s.length 80 0),(6,i64 0)] (chgF t s.length t.gates t.groups::s) (by simp) (by simp)
 ·intro k gs hk hi
  obtain⟨h0,h1⟩:=hr c[k] (List.getElem_mem hk)
  obtain⟨j,hj⟩: ∃j:Nat,c[k]=j:=⟨c[k].toNat,by omega⟩
  have hjl:j<gs.length:=by omega
  have hjl2:j<t.gates.length:=by omega
  have hjt:(c[k]).toNat=j:=by omega
  rw[hjt]
  have hset:=es_setGate gs j hjl gs[j].a gs[j].b gs[j].op rfl rfl rfl
  generalize hG:gs[j]=G at*
  generalize gs.modify j flip1=gs' at*
  have hjl3:(j:Int)<t.gates.length:=by omega
  cases ho:G.op<;>simp only[ho,Bool.not_false,Bool.not_true]at hset
  ·simp (maxSteps:=1000000) (disch:=first|omega|assumption|decide +kernel|(simp;done)|(simp;omega)|fail) [run_drawnK,orSlow_none,hk,hj,hjl,hjl2,hjl3,hi,hG,ho,hset,wk k (by omega)]
  ·simp (maxSteps:=1000000) (disch:=first|omega|assumption|decide +kernel|(simp;done)|(simp;omega)|fail) [run_drawnK,orSlow_none,hk,hj,hjl,hjl2,hjl3,hi,hG,ho,hset,wk k (by omega)]
 ·intro k gs hk hi
  simp[hi]
 ·intro gs hi
  simp
end Go.Proofs.YtmgkcipcjabigaaGreatDoor

/-
  Doors, the reference: Changed, Moved, AreMoves; isTurn, behind.
-/
namespace Go.Proofs.YtmgkcipcjabigaaGreatDoor
open Go.Ab
theorem flipAll_len(c:List Int): ∀gs,(flipAll c gs).length=gs.length:=by
 induction c with
 |nil=>intro gs;rfl
 |cons j c ih=>intro gs;simp only[flipAll,List.foldl_cons]at ih⊢;rw[ih];simp
set_option maxHeartbeats 4000000 in
theorem e_Changed(t:DTrap)(hs:ShortD t)(c:List Int)(hc:c.length<1000000000000)(hr: ∀y∈c,0≤y∧y<t.gates.length)(hp:c.Pairwise (· < ·))(lab s):
 den T 31 [.agg (dV t), .sl .no 1 (es cInt c)] lab s=some (.agg (dV (changedT t c)),s):=by
 have hcp:=fun lab loc s k0 k1=>e_CopyD t hs lab loc s k0 k1
 have hl:=e_Changed_l t hs c hc hr s
 have hlen:=flipAll_len c t.gates
 rw[flipAll_eq hp fun y hy=>(hr y hy).1]at hl hlen
 unfold changedT
 generalize flipG t.gates c=gs at*
 have htk:gs.take t.gates.length=gs:=List.take_of_length_le (by omega)
 rw[den_fn t31 _ _ _ rfl]
 simp only[b31]
 simp (maxSteps:=1000000) (disch:=first|omega|assumption|decide +kernel|(simp;done)|(simp;omega)|fail) [hcp,hl,hlen,htk]
def movedG(m:List Int):Nat→List DGroup→List DGroup
 |_,[]=>[]
 |i,g::r=>(if i<m.length then {g with pos:=m.getD i 0}else g)::movedG m (i+1) r
@[simp] theorem movedG_len(m:List Int): ∀(i:Nat) (gs:List DGroup),(movedG m i gs).length=gs.length
 |_,[]=>rfl
 |i,g::r=>by simp[movedG,movedG_len m (i+1) r]
end Go.Proofs.YtmgkcipcjabigaaGreatDoor

/-
  Doors: Turns.
-/
namespace Go.Proofs.YtmgkcipcjabigaaGreatDoor
open Go.Ab
def turnsF(t:DTrap)(fish:Int):Option Nat:=(List.range 5).find? fun k=>decide (fish≤worthT t k)
def turnsR(t:DTrap)(fish:Int):Int×Int:=if doorB t=true then(if 0≤fish then(match turnsF t fish with
 |some k=>(((k:Nat):Int),0)
 |none=>(0,3))else(0,1))else(0,30)
abbrev turnX(t:DTrap)(d:Nat)(T1:Int)(K:List (List Int×Int)):Ab.Loc:=[(32, .cell (dV t)),(208, .cell (gameV t (chB t) (.mp (.ptr d 1208 0)))),(1208, .mp (some 5) K),(112, .cell (sceneV T1 (gN t:Nat) (at0 t 0) (at0 t 1) (at0 t 2)))]
set_option maxHeartbeats 8000000 in
theorem e_Turns(t:DTrap)(hs:ShortD t)(fish:Int)(lab s):den T 13 [.agg (dV t),i64 fish] lab s=some (.tup [i64 (turnsR t fish).1,i64 (turnsR t fish).2],s):=by
 unfold turnsR
 cases h:doorB t
 ·have hb:=fun b lab loc s=>e_begin_bad t hs h b lab loc s
  rw[den_fn t13 _ _ _ rfl]
  simp only[b13]
  simp (maxSteps:=1000000) (disch:=first|omega|assumption|decide +kernel|(simp;done)|(simp;omega)|fail) [hb]
 have ho:=doorB_iff.1 h
 by_cases hf:0≤fish
 rotate_left
 ·have hb:=fun lab loc s=>e_begin_arg t ho lab loc s
  rw[den_fn t13 _ _ _ rfl]
  simp only[b13]
  simp (maxSteps:=1000000) (disch:=first|omega|assumption|decide +kernel|(simp;done)|(simp;omega)|fail) [hb,hf]
 have hb:=fun lab loc k0 k1=>e_begin t ho lab loc s k0 k1
 have htu:=ho.tu
 have hv:=fun(k:Nat) (hk:k≤4) K lab=>e_value ho k hk (GameD.topM (t:=t) (s:=s) (lg:=208) (lm:=1208) (X:=turnX t s.length (k:Nat)) (fun K=>rfl) (fun K=>rfl) (fun K K'=>rfl)) rfl (gN t) (nAt t) K lab (gN_lt ho) (nAt_in ho)
 simp only[wO_start ho]at hv
 have key:=loop_list_e (T:=Go.Proofs.YtmgkcipcjabigaaGreatDoor.T) (live:=[1,6,7,20]) (keep:=[32,112,208,1208]) (b:=d13l0) (List.range 5)
  (fun _ (_:MemW t×Int)=>True)
  (fun k _=>[(1,i64 fish),(6, .ptr s.length 208 0),(7, .ptr s.length 112 0),(20,i64 (k:Nat))]) (fun _ p=>turnX t s.length p.2 p.1.1::s)
  (fun p k=>((valK t k (gN t) (nAt t) p.1,((k:Nat):Int)),!decide (fish≤worthT t k)))
  (fun(_:Unit) p=>(.ret,[(4,i64 p.2),(5,i64 0)],turnX t s.length p.2 p.1.1::s)) (fun p=>(.exit 0,[(1,i64 fish),(6, .ptr s.length 208 0),(7, .ptr s.length 112 0),(20,i64 5),(21, .bool false)],turnX t s.length p.2 p.1.1::s))
  (by simp) (by simp) ?_ ?_ (Mem.nil,t.turns) trivial [(1,i64 fish),(6, .ptr s.length 208 0),(7, .ptr s.length 112 0),(20,i64 0)] (turnX t s.length t.turns []::s) (by simp) (by simp)
 ·obtain⟨g,hg⟩:=key
  have fold: ∀(l:List Nat) (a:MemW t×Int),∃a',foldB (fun(p:MemW t×Int) (k:Nat)=>((valK t k (gN t) (nAt t) p.1,((k:Nat):Int)),!decide (fish≤worthT t k))) l a=(a',(l.find? fun k=>decide (fish≤worthT t k)).isNone)∧ ∀k,(l.find? fun k=>decide (fish≤worthT t k))=some k→a'.2=(k:Nat):=by
   intro l
   induction l with
   |nil=>intro a;exact⟨a,rfl,fun k hk=>by simp at hk⟩
   |cons x r ih=>
     intro a
     simp only[foldB,List.find?_cons]
     by_cases hx:fish≤worthT t x
     ·exact⟨(valK t x (gN t) (nAt t) a.1,((x:Nat):Int)),by simp[hx],fun k hk=>by simp[hx]at hk;rw[hk]⟩
     ·obtain⟨a',h1,h2⟩:=ih (valK t x (gN t) (nAt t) a.1,((x:Nat):Int))
      exact⟨a',by simp only[hx,decide_false,Bool.not_false,if_true];exact h1,fun k hk=>h2 k (by simpa [hx]using hk)⟩
  obtain⟨⟨K',j⟩,hf1,hf2⟩:=fold (List.range 5) (Mem.nil,t.turns)
  rw[hf1]at hg
  change∀k,turnsF t fish=some k→_ at hf2
  change Run T b13l0 _ _=if (turnsF t fish).isNone=true then _ else _ at hg
  simp only[scene0,turnX,sceneV,gN,if_pos hf]at hb hg⊢
  clear hv
  generalize chB t=C at*
  generalize gateBits t.gates=o at*
  cases hq:turnsF t fish with
  |none=>
    rw[hq]at hg
    simp only[Option.isNone_none,if_true]at hg
    rw[den_fn t13 _ _ _ rfl]
    simp only[b13]
    simp (maxSteps:=1000000) (disch:=first|omega|assumption|decide +kernel|(simp;done)|(simp;omega)|fail) [hb,hf,hg]
  |some k=>
    rw[hq]at hg
    have hj:=hf2 k hq
    simp only at hj
    subst hj
    simp only[Option.isNone_some,Bool.false_eq_true,if_false]at hg
    rw[den_fn t13 _ _ _ rfl]
    simp only[b13]
    simp (maxSteps:=1000000) (disch:=first|omega|assumption|decide +kernel|(simp;done)|(simp;omega)|fail) [hb,hf,hg]
 ·intro k p hk _
  obtain⟨K,j⟩:=p
  simp only[List.length_range]at hk
  simp only[List.getElem_range]
  have hk4:k≤4:=by omega
  have hk5:(k:Int)<5:=by omega
  have hv1:=hv k hk4 K
  generalize valK t k (gN t) (nAt t) K=K2 at*
  generalize worthT t k=w at*
  clear hv
  have hne:sceneL (k:Nat) (gN t:Nat) (nAt t)=sceneV (k:Nat) (gN t:Nat) (at0 t 0) (at0 t 1) (at0 t 2):=rfl
  rw[hne]at hv1
  simp only[turnX,sceneV]at hv1⊢
  generalize chB t=C at*
  by_cases hw:fish≤w
  ·refine⟨fun hb=>absurd hb (by simp[hw]),fun _=>⟨(),?_⟩⟩
   simp (maxSteps:=1000000) (disch:=first|omega|assumption|decide +kernel|(simp;done)|(simp;omega)|fail) [hk5,hv1,hw,wk k (by omega)]
  ·refine⟨fun _=>⟨?_,trivial⟩,fun hb=>absurd hb (by simp[hw])⟩
   simp (maxSteps:=1000000) (disch:=first|omega|assumption|decide +kernel|(simp;done)|(simp;omega)|fail) [hk5,hv1,hw,wk k (by omega)]
 ·intro p _
  simp
end Go.Proofs.YtmgkcipcjabigaaGreatDoor

/-
  TopLed: the beast: what the program computes of beliefs, in plain words.
-/
namespace Go.Proofs.YtmgkcipcjabigaaGreatDoor
open Go.Ab
structure BDoor where
 a:Int
 b:Int
 cost:Int
 deriving DecidableEq,Inhabited
structure BTrap where
 chambers:Int
 doors:List BDoor
 seen:List Int
 look:Int
 eats:Int
 places:List Int
abbrev QM:=List (Int×Int×Int)
def shN(i:Nat):Nat:=1<<<i
def anB(a b:Nat):Nat:=a&&&b
def orB(a b:Nat):Nat:=a|||b
def noB(a b:Nat):Nat:=a-(a&&&b)
def atN(p:Int):Nat:=(p+1).toNat
def plN(s:Nat):List Int:=((List.range 4).filter fun i=>s.testBit i).map fun(i:Nat)=>(i:Int)-1
def ofN(l:List Int):Nat:=l.foldl (fun g n=>orB g (shN (atN n))) 0
def thr(d:BDoor)(at_:Int):Int:=if at_= -1 then at_ else if at_=d.a then d.b else if at_=d.b then d.a else at_
def movN(s:Nat)(d:BDoor):Nat:=(plN s).foldl (fun g p=>orB g (shN (atN (thr d p)))) 0
def farP:Int×Int:=(1073741824,1073741824)
def lessP(p q:Int×Int):Bool:=decide (p.1<q.1)||(decide (p.1=q.1)&&decide (p.2<q.2))
def ofQ(K:QM)(s:Nat):Int×Int:=(qGet K s).getD farP
def cosB(b:BTrap)(x:Int×Int):Int:=if x.1=2 then b.look+b.eats else(b.doors.getD x.2.toNat default).cost+b.eats
def worse(K:QM)(w:Int×Int)(s:Nat):Int×Int:=if lessP w (ofQ K s)=true then ofQ K s else w
def wrsN(K:QM)(nx:List Nat):Int×Int:=nx.foldl (worse K) (-1,-1)
def witN(b:BTrap)(K:QM)(x:Int×Int)(nx:List Nat):Int×Int:=if wrsN K nx=farP then farP else(cosB b x+(wrsN K nx).1,(wrsN K nx).2+1)
abbrev BStep:=(Int×Int)×List Nat
def doorS(s:Nat)(x:BDoor×Nat):BStep:=((1,(x.2:Int)),[movN s x.1])
def lookB(s:Nat)(c:Int):Bool:=decide (¬anB s (shN (atN c))=0)&&decide (¬anB s (shN (atN c))=s)
def lookS(s:Nat)(c:Int):BStep:=((2,c),[anB s (shN (atN c)),noB s (anB s (shN (atN c)))])
def stpN(b:BTrap)(s:Nat):List BStep:=b.doors.zipIdx.map (doorS s) ++(b.seen.filter (lookB s)).map (lookS s)
def updN(b:BTrap)(s:Nat)(a:QM×Bool)(x:BStep):QM×Bool:=if lessP (witN b a.1 x.1 x.2) (ofQ a.1 s)=true then(qPut a.1 s (witN b a.1 x.1 x.2),true)else a
def rndS(b:BTrap)(a:QM×Bool)(s:Nat):QM×Bool:=(stpN b s).foldl (updN b s) a
def rndN(b:BTrap)(K:QM):QM×Bool:=(List.range' 1 (2^(b.chambers.toNat+1)-1)).foldl (rndS b) (K,false)
def stN(b:BTrap):Nat→QM×Bool
 |0=>([(1,0,0)],true)
 |k+1=>rndN b (stN b k).1
def sumR(n:Nat)(f:Nat→Int):Int:=((List.range n).map f).sum
theorem sumR_succ(n f):sumR (n+1) f=sumR n f+f n:=by simp[sumR,List.range_succ]
theorem sumR_upd {f g:Nat→Int} {i:Nat}: ∀ {n:Nat},i<n→(∀j,j≠i→g j=f j)→sumR n g=sumR n f-f i+g i
 |0,h,_=>by omega
 |n+1,h,hj=>by
   rw[sumR_succ,sumR_succ]
   by_cases e:i=n
   ·subst e
    have:sumR i g=sumR i f:=by
     unfold sumR
     congr 1
     exact List.map_congr_left fun j hm=>hj j (by have:=List.mem_range.1 hm;omega)
    rw[this];omega
   ·rw[sumR_upd (n:=n) (by omega) hj,hj n (by omega)];omega
theorem sumR_le {f:Nat→Int} {m:Int}(h: ∀j,f j≤m): ∀n,sumR n f≤n*m
 |0=>by simp[sumR]
 |n+1=>by rw[sumR_succ];have:=sumR_le h n;have:=h n;push_cast;rw[Int.add_mul];omega
theorem sumR_nn {f:Nat→Int}(h: ∀j,0≤f j): ∀n,0≤sumR n f
 |0=>by simp[sumR]
 |n+1=>by rw[sumR_succ];have:=sumR_nn h n;have:=h n;omega
theorem qGet_put(K:QM)(k:Int)(p:Int×Int)(j:Int):qGet (qPut K k p) j=if j=k then some p else qGet K j:=by
 induction K with
 |nil=>simp only[qPut,qGet]
 |cons x r ih=>
   simp only[qPut]
   by_cases e:k=x.1
   ·rw[if_pos e];simp only[qGet]
    by_cases e2:j=k
    ·simp[e2]
    ·rw[if_neg e2,if_neg e2,if_neg (by rw[←e];exact e2)]
   ·rw[if_neg e];simp only[qGet,ih]
    by_cases e2:j=k
    ·subst e2;simp[e]
    ·simp[e2]
def someI:Option (Int×Int)→Int
 |some _=>30
 |none=>0
def rkI:Option (Int×Int)→Int
 |some p=>p.1*1000+p.2
 |none=>1000000
def bndQ(K:QM):Int:=sumR 16 fun s=>someI (qGet K s)
def muQ(K:QM):Int:=sumR 16 fun s=>rkI (qGet K s)
structure InvQ(K:QM):Prop where
 val: ∀(s:Nat) p,qGet K s=some p→0≤p.2∧p.2≤p.1∧p.1≤bndQ K
theorem bnd_le(K):0≤bndQ K∧bndQ K≤480:=by
 have h: ∀j:Nat,0≤someI (qGet K j)∧someI (qGet K j)≤30:=fun j=>by cases qGet K j<;>simp[someI]
 have h1:=sumR_le (fun j=>(h j).2) 16
 have h2:=sumR_nn (fun j=>(h j).1) 16
 unfold bndQ
 omega
theorem InvQ.of {K}(h:InvQ K)(s:Nat):ofQ K s=farP∨0≤(ofQ K s).2∧(ofQ K s).2≤(ofQ K s).1∧(ofQ K s).1≤bndQ K:=by
 unfold ofQ
 cases e:qGet K s with
 |none=>exact .inl rfl
 |some p=>exact .inr (h.val s p e)
theorem worse_one {K:QM}(h:InvQ K): ∀(nx:List Nat) (w:Int×Int),(w=farP∨0≤w.2∧w.2≤w.1∧w.1≤bndQ K)→(nx.foldl (worse K) w=farP∨0≤(nx.foldl (worse K) w).2∧(nx.foldl (worse K) w).2≤(nx.foldl (worse K) w).1∧(nx.foldl (worse K) w).1≤bndQ K)
 |[],w,hw=>hw
 |s::nx,w,hw=>by
   rw[List.foldl_cons]
   refine worse_one h nx _ ?_
   unfold worse
   split
   ·exact h.of s
   ·exact hw
theorem wrs_one {K:QM}(h:InvQ K) {nx:List Nat}(hn:nx≠[]):wrsN K nx=farP∨0≤(wrsN K nx).2∧(wrsN K nx).2≤(wrsN K nx).1∧(wrsN K nx).1≤bndQ K:=by
 obtain⟨s,r,rfl⟩:=List.exists_cons_of_ne_nil hn
 unfold wrsN
 rw[List.foldl_cons]
 refine worse_one h r _ ?_
 have h1:=h.of s
 have hb:=bnd_le K
 have:lessP (-1,-1) (ofQ K s)=true:=by
  rcases h1 with e|e
  ·rw[e];decide
  ·simp only[lessP,Bool.or_eq_true,decide_eq_true_eq];left;omega
 unfold worse
 rw[if_pos this]
 exact h1
def CosOk(b:BTrap)(x:BStep):Prop:=x.2≠[]∧1≤cosB b x.1∧cosB b x.1≤29
theorem wit_one {b:BTrap} {K:QM}(h:InvQ K) {x:BStep}(hx:CosOk b x):witN b K x.1 x.2=farP∨1≤(witN b K x.1 x.2).2∧(witN b K x.1 x.2).2≤(witN b K x.1 x.2).1∧(witN b K x.1 x.2).1≤bndQ K+30:=by
 unfold witN
 split
 ·exact .inl rfl
 ·rename_i hf
  rcases wrs_one h hx.1 with e|e
  ·exact absurd e hf
  ·right
   have:=hx.2
   dsimp only;omega
theorem upd_inv {b:BTrap} {s:Nat}(hs:s<16) {a:QM×Bool}(h:InvQ a.1) {x:BStep}(hx:CosOk b x):InvQ (updN b s a x).1∧((updN b s a x)=a∨(updN b s a x).2=true∧muQ (updN b s a x).1<muQ a.1):=by
 unfold updN
 split
 ·rename_i hl
  have h1:=wit_one h hx
  have h2:=h.of s
  have hb:=bnd_le a.1
  generalize witN b a.1 x.1 x.2=p at*
  have hp: ¬p=farP:=by
   rintro rfl
   rcases h2 with e|e
   ·rw[e]at hl;revert hl;decide
   ·have e1:farP.1=1073741824:=rfl
    have e2:farP.2=1073741824:=rfl
    simp only[lessP,Bool.or_eq_true,Bool.and_eq_true,decide_eq_true_eq]at hl
    omega
  replace h1:=h1.resolve_left hp
  have hB:bndQ (qPut a.1 s p)=bndQ a.1-someI (qGet a.1 s)+30:=by
   have:=sumR_upd (f:=fun j:Nat=>someI (qGet a.1 j)) (g:=fun j:Nat=>someI (qGet (qPut a.1 s p) j)) (i:=s) (n:=16) hs (fun j hj=>by
    simp only[qGet_put];rw[if_neg (by omega)])
   have e1:qGet (qPut a.1 s p) s=some p:=by rw[qGet_put,if_pos rfl]
   rw[e1]at this
   exact this
  have hM:muQ (qPut a.1 s p)=muQ a.1-rkI (qGet a.1 s)+(p.1*1000+p.2):=by
   have:=sumR_upd (f:=fun j:Nat=>rkI (qGet a.1 j)) (g:=fun j:Nat=>rkI (qGet (qPut a.1 s p) j)) (i:=s) (n:=16) hs (fun j hj=>by
    simp only[qGet_put];rw[if_neg (by omega)])
   have e1:qGet (qPut a.1 s p) s=some p:=by rw[qGet_put,if_pos rfl]
   rw[e1]at this
   exact this
  have hold:(qGet a.1 s=none)∨ ∃q,qGet a.1 s=some q∧(0≤q.2∧q.2≤q.1∧q.1≤bndQ a.1)∧(p.1<q.1∨p.1=q.1∧p.2<q.2):=by
   cases e:qGet a.1 s with
   |none=>exact .inl rfl
   |some q=>
     right
     refine⟨q,rfl,h.val s q e,?_⟩
     unfold ofQ at hl
     rw[e,Option.getD_some]at hl
     simpa [lessP,Bool.or_eq_true,Bool.and_eq_true,decide_eq_true_eq]using hl
  refine⟨⟨fun j q hq=> ?_⟩, .inr ⟨rfl,?_⟩⟩
  ·dsimp only at hq⊢
   rw[qGet_put]at hq
   rw[hB]
   rcases hold with e|⟨r,e,k1,k2⟩
   ·rw[e]
    simp only[someI]
    split at hq
    ·cases hq;omega
    ·have:=h.val j q hq;omega
   ·rw[e]
    simp only[someI]
    split at hq
    ·cases hq;omega
    ·have:=h.val j q hq;omega
  ·dsimp only
   rw[hM]
   rcases hold with e|⟨r,e,k1,k2⟩
   ·rw[e];simp only[rkI];omega
   ·rw[e];simp only[rkI];omega
 ·exact⟨h, .inl rfl⟩
theorem fold_inv {b:BTrap} {s:Nat}(hs:s<16): ∀(l:List BStep) {a:QM×Bool},InvQ a.1→(∀x∈l,CosOk b x)→InvQ (l.foldl (updN b s) a).1∧(l.foldl (updN b s) a=a∧(∀x∈l,updN b s a x=a)∨(l.foldl (updN b s) a).2=true∧muQ (l.foldl (updN b s) a).1<muQ a.1)
 |[],a,h,_=>⟨h, .inl ⟨rfl,by simp⟩⟩
 |x::l,a,h,hx=>by
   obtain⟨h1,h2⟩:=upd_inv hs h (hx x (by simp))
   obtain⟨k1,k2⟩:=fold_inv hs l h1 fun y hy=>hx y (by simp[hy])
   rw[List.foldl_cons]
   refine⟨k1,?_⟩
   rcases h2 with e|⟨e1,e2⟩
   ·rw[e]at k2⊢
    rcases k2 with ⟨k2,k3⟩|k2
    ·exact .inl ⟨k2,fun y hy=>(List.mem_cons.1 hy).elim (fun h=>by rw[h];exact e) fun h=>k3 y h⟩
    ·exact .inr k2
   ·right
    rcases k2 with ⟨k2,_⟩|⟨k2,k3⟩
    ·rw[k2];exact⟨e1,e2⟩
    ·exact⟨k2,by omega⟩
def CosAll(b:BTrap):Prop:= ∀s:Nat,∀x∈stpN b s,CosOk b x
theorem rnd_inv {b:BTrap}(hc:CosAll b): ∀(l:List Nat) {a:QM×Bool},InvQ a.1→(∀s∈l,s<16)→InvQ (l.foldl (rndS b) a).1∧(l.foldl (rndS b) a=a∧(∀s∈l,∀x∈stpN b s,updN b s a x=a)∨(l.foldl (rndS b) a).2=true∧muQ (l.foldl (rndS b) a).1<muQ a.1)
 |[],a,h,_=>⟨h, .inl ⟨rfl,by simp⟩⟩
 |s::l,a,h,hl=>by
   obtain⟨h1,h2⟩:=fold_inv (hl s (by simp)) (stpN b s) h (hc s)
   obtain⟨k1,k2⟩:=rnd_inv hc l (a:=rndS b a s) h1 fun y hy=>hl y (by simp[hy])
   rw[List.foldl_cons]
   refine⟨k1,?_⟩
   rcases h2 with ⟨e,e'⟩|⟨e1,e2⟩
   ·have e:rndS b a s=a:=e
    rw[e]at k2⊢
    rcases k2 with ⟨k2,k3⟩|k2
    ·exact .inl ⟨k2,fun y hy=>(List.mem_cons.1 hy).elim (fun h=>by rw[h];exact e') fun h=>k3 y h⟩
    ·exact .inr k2
   ·right
    rcases k2 with ⟨k2,_⟩|⟨k2,k3⟩
    ·rw[k2];exact⟨e1,e2⟩
    ·refine⟨k2,?_⟩
     have:muQ (rndS b a s).1<muQ a.1:=e2
     omega
theorem range_16 {b:BTrap}(h:b.chambers≤3): ∀s∈List.range' 1 (2^(b.chambers.toNat+1)-1),s<16:=fun s hs=>by
 have h1:2^(b.chambers.toNat+1)≤2^4:=Nat.pow_le_pow_right (by decide) (by omega)
 have:=(List.mem_range'_1.1 hs).2
 omega
theorem inv_0:InvQ [(1,0,0)]:=⟨fun s p h=>by
 simp only[qGet]at h
 split at h
 ·cases h;exact⟨by decide,by decide,(bnd_le _).1⟩
 ·cases h⟩
theorem st_inv {b:BTrap}(hc:CosAll b)(h3:b.chambers≤3): ∀k,InvQ (stN b k).1
 |0=>inv_0
 |k+1=>(rnd_inv hc _ (a:=((stN b k).1,false)) (st_inv hc h3 k) (range_16 h3)).1
theorem mu_nn {K}(h:InvQ K):0≤muQ K:=sumR_nn (fun j=>by
 cases e:qGet K j with
 |none=>simp[rkI]
 |some p=>have:=h.val j p e;simp only[rkI];omega) 16
theorem st_end {b:BTrap}(hc:CosAll b)(h3:b.chambers≤3): ∃n,(∀k,k≤n→(stN b k).2=true)∧(stN b (n+1)).2=false:=by
 have key: ∀m k:Nat,muQ (stN b k).1<m→(∀j,j≤k→(stN b j).2=true)→ ∃n,(∀k,k≤n→(stN b k).2=true)∧(stN b (n+1)).2=false:=by
  intro m
  induction m with
  |zero=>intro k h;have:=mu_nn (st_inv hc h3 k);omega
  |succ m ih=>
    intro k h hk
    cases e:(stN b (k+1)).2
    ·exact⟨k,hk,e⟩
    ·refine ih (k+1) ?_ fun j hj=>by
      rcases Nat.lt_or_eq_of_le hj with h|h
      ·exact hk j (by omega)
      ·rw[h];exact e
     have:=(rnd_inv hc _ (a:=((stN b k).1,false)) (st_inv hc h3 k) (range_16 h3)).2
     rcases this with ⟨e1,_⟩|⟨_,e2⟩
     ·have e1:stN b (k+1)=((stN b k).1,false):=e1
      rw[e1]at e;cases e
     ·have e2:muQ (stN b (k+1)).1<muQ (stN b k).1:=e2
      omega
 exact key ((muQ (stN b 0).1).toNat+1) 0 (by have:=mu_nn (st_inv hc h3 0);omega) fun j hj=>by rw[Nat.le_zero.1 hj];rfl
theorem end_fix {b:BTrap}(hc:CosAll b)(h3:b.chambers≤3) {n:Nat}(h:(stN b (n+1)).2=false):(stN b (n+1)).1=(stN b n).1∧ ∀s:Nat,1≤s→s<2^(b.chambers.toNat+1)→ ∀x∈stpN b s,lessP (witN b (stN b n).1 x.1 x.2) (ofQ (stN b n).1 s)=false:=by
 have:=(rnd_inv hc _ (a:=((stN b n).1,false)) (st_inv hc h3 n) (range_16 h3)).2
 rcases this with ⟨e1,e2⟩|⟨e1,_⟩
 ·have e1:stN b (n+1)=((stN b n).1,false):=e1
  refine⟨by rw[e1],fun s s1 s2 x hx=> ?_⟩
  have:=e2 s (List.mem_range'_1.2 ⟨s1,by omega⟩) x hx
  unfold updN at this
  split at this
  ·have:=congrArg Prod.snd this;cases this
  ·rename_i hn;simpa using hn
 ·have e1:(stN b (n+1)).2=true:=e1
  rw[h]at e1;cases e1
end Go.Proofs.YtmgkcipcjabigaaGreatDoor

/-
  lifts: crews.
-/
import Derived.Test.YtoedpegjoccnlaaGreatEq3
import Derived.Test.YtoedpegjoccnlaaGreatAb7
import Derived.Test.YtoedpegjoccnlaaGreatEq2
import Derived.Test.YtoedpegjoccnlaaGreatEq1
set_option linter.unusedSimpArgs false
set_option linter.unusedVariables false
namespace Go.Proofs.YtoedpegjoccnlaaGreat.A
open Go.Ab
theorem e_Index_l(l:List Int)(n:Int)(S:Stk)(hl:l.length<4611686018427387904):
 ∃g:Nat,Run T b137l0 [(0, .sl .no 1 (es cInt l)),(1,i64 n),(7,i64 l.length),(8,i64 0)] ([]::S)=
  if allB (fun x=> !decide (x=n)) l=true then some (.exit 0,[(0, .sl .no 1 (es cInt l)),(1,i64 n),(7,i64 l.length),(8,i64 l.length),(9, .bool false)],[]::S)else some (.ret,[(4,i64 (g:Nat))],[]::S):=by
 refine loop_all_g l (fun x=> !decide (x=n)) (fun k=>[(0, .sl .no 1 (es cInt l)),(1,i64 n),(7,i64 l.length),(8,i64 k)]) (fun _=>[]::S) (fun g:Nat=>(.ret,[(4,i64 (g:Nat))],[]::S)) _ (by simp) (by simp) ?_ (by simp) _ _ (by simp) (by simp)
 intro k hk
 refine⟨k,?_⟩
 by_cases h:l[k]=n
 ·have h':n=l[k]:=h.symm
  simp (disch:=first|omega|assumption|decide +kernel|(simp;done)|(simp;omega)|fail) [hk,h,wk k (by omega)]
 ·have h': ¬n=l[k]:=fun e=>h e.symm
  simp (disch:=first|omega|assumption|decide +kernel|(simp;done)|(simp;omega)|fail) [hk,h,h',wk k (by omega)]
@[simp] theorem e_Contains(l:List Int)(n:Int)(S:Stk)(hl:l.length<4611686018427387904)(lab):
 den T 110 [.sl .no 1 (es cInt l),i64 n] lab S=some (.bool (anyB (fun x=>decide (x=n)) l),S):=by
 have ha:anyB (fun x=>decide (x=n)) l= !allB (fun x=> !decide (x=n)) l:=by simp only[anyB,allB,List.not_all_eq_any_not,Bool.not_not]
 have hi: ∃r:Int,(∀lab S',S'=[]::S→den T 137 [.sl .no 1 (es cInt l),i64 n] lab S'=some (i64 r,S'))∧(0≤r↔anyB (fun x=>decide (x=n)) l=true):=by
  obtain⟨g,hg⟩:=e_Index_l l n ([]::S) hl
  rw[ha]
  refine⟨if allB (fun x=> !decide (x=n)) l=true then -1 else g,?_,?_⟩
  rotate_left
  ·cases allB (fun x=> !decide (x=n)) l<;>simp
  intro lab S' hS
  subst hS
  rw[den_fn t137 _ _ _ rfl]
  simp only[b137]
  cases h:allB (fun x=> !decide (x=n)) l<;>simp (disch:=first|omega|assumption|decide +kernel|(simp;done)|(simp;omega)|fail) [hg,h]
 obtain⟨r,hr,hi⟩:=hi
 have hr':=fun lab=>hr lab _ rfl
 rw[den_fn t110 _ _ _ rfl]
 simp only[b110]
 by_cases h:0≤r
 ·have:=hi.1 h
  simp (disch:=first|omega|assumption|decide +kernel|(simp;done)|(simp;omega)|fail) [hr',h,this]
 ·have:anyB (fun x=>decide (x=n)) l=false:=by cases hx:anyB (fun x=>decide (x=n)) l;rfl;exact absurd (hi.2 hx) h
  simp (disch:=first|omega|assumption|decide +kernel|(simp;done)|(simp;omega)|fail) [hr',h,this]
def crewsFrom(nb:Nat):Nat→List Int→List (List Int)
 |0,c=>[c]
 |r+1,c=>(List.range nb).flatMap fun(b:Nat)=>if anyB (fun x=>decide (x=(b:Int))) c=true then []else crewsFrom nb r (c ++[(b:Int)])
structure Yield05(n:Sea)(σ:Type)(d l ds ls D:Nat)(St:σ→Stk)(Y:σ→List Int→σ×Bool):Prop where
 len: ∀a,(St a).length=D
 lt:ds<D
 ltd:d<D
 sea: ∀a,sget (St a) ds ls=some (.cell (seaCell n))
 yield: ∀(fr:Stk) a c lab,(∀x:Int,x∈c→0≤x∧x<(n.boats.length:Int))→c.length=n.places.length→denV T (.yld d l) [.sl .no 1 (es cInt c)] lab (fr ++St a)=some (.bool (Y a c).2,fr ++St (Y a c).1)
def crewsFrame(ds ls d l D:Nat):Ab.Loc:=[(32, .cell [.ptr ds ls 0]),(48, .cell [.yld d l]),(64, .cell [.fn 109 [] [.ptr D 32 0, .ptr D 48 0, .ptr D 64 0]])]
theorem sget_append(d l:Nat): ∀(fr S:Stk),d<S.length→sget (fr ++S) d l=sget S d l
 |[],_,_=>rfl
 |x::fr,S,h=>by
   rw[List.cons_append,sget_cons,if_neg (by simp;omega)]
   exact sget_append d l fr S h
set_option maxHeartbeats 4000000 in
theorem e_from05(n:Sea)(hb:n.boats.length≤6)(hm:n.places.length≤4) {σ:Type} {d l ds ls D:Nat} {St:σ→Stk} {Y:σ→List Int→σ×Bool}(y:Yield05 n σ d l ds ls D St Y):
 ∀(r:Nat) (c:List Int),c.length+r=n.places.length→(∀x:Int,x∈c→0≤x∧x<(n.boats.length:Int))→ ∀(fr:Stk) (a:σ) (lab:Nat),
  den T 109 [.sl .no 1 (es cInt c), .ptr D 32 0, .ptr D 48 0, .ptr D 64 0] lab (fr ++crewsFrame ds ls d l D::St a)=
   some (.bool (foldB Y (crewsFrom n.boats.length r c) a).2,fr ++crewsFrame ds ls d l D::St (foldB Y (crewsFrom n.boats.length r c) a).1):=by
 have facts: ∀(fr:Stk) (a:σ),sget (fr ++crewsFrame ds ls d l D::St a) D 32=some (.cell [.ptr ds ls 0])∧sget (fr ++crewsFrame ds ls d l D::St a) D 48=some (.cell [.yld d l])∧
  sget (fr ++crewsFrame ds ls d l D::St a) D 64=some (.cell [.fn 109 [] [.ptr D 32 0, .ptr D 48 0, .ptr D 64 0]])∧sget (fr ++crewsFrame ds ls d l D::St a) ds ls=some (.cell (seaCell n))∧
  (¬D=(fr ++crewsFrame ds ls d l D::St a).length)∧(¬ds=(fr ++crewsFrame ds ls d l D::St a).length)∧(¬d=(fr ++crewsFrame ds ls d l D::St a).length):=by
  intro fr a
  have hl:=y.len a
  have hlt:=y.lt
  have hltd:=y.ltd
  have g: ∀l',sget (fr ++crewsFrame ds ls d l D::St a) D l'=(crewsFrame ds ls d l D).get l':=fun l'=>by
   rw[sget_append _ _ _ _ (by simp only[List.length_cons];omega),←hl,sget_top]
  refine⟨by rw[g];rfl,by rw[g];rfl,by rw[g];rfl,?_,?_,?_,?_⟩
  ·rw[show fr ++crewsFrame ds ls d l D::St a=(fr ++[crewsFrame ds ls d l D]) ++St a by simp,sget_append _ _ _ _ (by omega),y.sea]
  all_goals simp only[List.length_append,List.length_cons];omega
 intro r
 induction r with
 |zero=>
   intro c hr hc fr a lab
   obtain⟨h32,h48,h64,hsea,hD,hds,hd⟩:=facts fr a
   have hy:=y.yield ([]::(fr ++[crewsFrame ds ls d l D])) a c
   simp only[List.cons_append,List.append_assoc,List.nil_append]at hy
   have hy2:=fun lab=>hy lab hc (by omega)
   have e:foldB Y (crewsFrom n.boats.length 0 c) a=Y a c:=by
    simp only[crewsFrom,foldB]
    split
    ·rename_i h;exact Prod.ext rfl h.symm
    ·rfl
   rw[e]
   generalize fr ++crewsFrame ds ls d l D::St a=X at*
   generalize fr ++crewsFrame ds ls d l D::St (Y a c).1=X' at*
   have hcl:(c.length:Int)=n.places.length:=by omega
   rw[den_fn t109 _ _ _ rfl]
   simp only[b109]
   simp (disch:=first|omega|assumption|decide +kernel|(simp;done)|(simp;omega)|fail) [h32,h48,hsea,hD,hds,hd,hy2,seaCell,hcl]
 |succ r ih=>
   intro c hr hc fr a lab
   obtain⟨X,hX⟩: ∃X:σ→Stk,∀a,fr ++crewsFrame ds ls d l D::St a=X a:=⟨_,fun _=>rfl⟩
   have fx: ∀a,sget (X a) D 32=some (.cell [.ptr ds ls 0])∧sget (X a) D 48=some (.cell [.yld d l])∧sget (X a) D 64=some (.cell [.fn 109 [] [.ptr D 32 0, .ptr D 48 0, .ptr D 64 0]])∧sget (X a) ds ls=some (.cell (seaCell n))∧(¬D=(X a).length)∧(¬ds=(X a).length)∧(¬d=(X a).length):=fun a=>by
    have:=facts fr a;rw[hX]at this;exact this
   rw[hX,hX]
   have hne: ¬(c.length:Int)=n.places.length:=by omega
   have key:=fun a0=>loop_list_e (T:=T) (live:=[0,3,24,25]) (keep:=[288]) (b:=d109l0) (List.range n.boats.length) (fun _ (_:σ)=>True)
    (fun k _=>[(0, .sl .no 1 (es cInt c)),(3, .ptr D 64 0),(24,i64 n.boats.length),(25,i64 k)]) (fun _ a=>[]::X a)
    (fun a (b:Nat)=>foldB Y (if anyB (fun x=>decide (x=(b:Int))) c=true then []else crewsFrom n.boats.length r (c ++[(b:Int)])) a)
    (fun(g:Ab.Loc) a=>(.ret,[(5, .bool false)],g::X a)) (fun a=>(.exit 0,[(0, .sl .no 1 (es cInt c)),(3, .ptr D 64 0),(24,i64 n.boats.length),(25,i64 n.boats.length),(26, .bool false)],[]::X a))
    (by simp) (by simp) ?_ ?_ a0 trivial [(0, .sl .no 1 (es cInt c)),(3, .ptr D 64 0),(24,i64 n.boats.length),(25,i64 0)] ([]::X a0) (by simp[(fx a0).2.2.2.2.1]) (by simp)
   ·obtain⟨g,hg⟩:=key a
    change Run T b109l0 _ _=_ at hg
    have e:foldB Y (crewsFrom n.boats.length (r+1) c) a=foldB (fun a (b:Nat)=>foldB Y (if anyB (fun x=>decide (x=(b:Int))) c=true then []else crewsFrom n.boats.length r (c ++[(b:Int)])) a) (List.range n.boats.length) a:=by
     rw[crewsFrom,foldB_flatMap]
    rw[e]
    generalize foldB (fun a (b:Nat)=>foldB Y (if anyB (fun x=>decide (x=(b:Int))) c=true then []else crewsFrom n.boats.length r (c ++[(b:Int)])) a) (List.range n.boats.length) a=q at hg
    obtain⟨a',bb⟩:=q
    obtain⟨h32,h48,h64,hsea,hD,hds,hd⟩:=fx a
    rw[den_fn t109 _ _ _ rfl]
    simp only[b109]
    cases bb
    ·simp (disch:=first|omega|assumption|decide +kernel|(simp;done)|(simp;omega)|fail) [h32,h48,h64,hsea,hD,hds,hd,seaCell,hne,hg]
    ·simp (disch:=first|omega|assumption|decide +kernel|(simp;done)|(simp;omega)|fail) [h32,h48,h64,hsea,hD,hds,hd,seaCell,hne,hg]
   ·intro k a hk _
    simp only[List.length_range]at hk
    simp only[List.getElem_range]
    obtain⟨h32,h48,h64,hsea,hD,hds,hd⟩:=fx a
    have hcl:c.length<10:=by omega
    cases hin:anyB (fun x=>decide (x=(k:Int))) c
    rotate_left
    ·refine⟨fun _=>⟨?_,trivial⟩,fun h=>by simp[foldB]at h⟩
     simp (maxSteps:=1000000) (disch:=first|omega|assumption|decide +kernel|(simp;done)|(simp;omega)|fail) [run_drawnK,hin,hD,hk,foldB,wk k (by omega)]
    ·have h1:=fun lab=>ih (c ++[(k:Int)]) (by simp;omega) (fun x hx=>by
      rcases List.mem_append.1 hx with h|h
      ·exact hc x h
      ·simp at h;omega) ([(672, .tok (c.length+1))]::fr) a lab
     simp only[List.cons_append]at h1
     rw[hX,hX]at h1
     simp only[hin,Bool.false_eq_true,if_false]
     generalize foldB Y (crewsFrom n.boats.length r (c ++[(k:Int)])) a=q at h1
     obtain⟨a',bb⟩:=q
     refine⟨fun hb=>⟨?_,trivial⟩,fun hb=>⟨[(672, .tok (c.length+1))],?_⟩⟩
     ·simp only at hb
      subst hb
      simp (maxSteps:=1000000) (disch:=first|omega|assumption|decide +kernel|(simp;done)|(simp;omega)|fail) [run_drawnK,hin,hD,hds,h64,hk,appD_full1,denV_fn,h1,(fx a').2.2.2.2.1,wk k (by omega)]
     ·simp only at hb
      subst hb
      simp (maxSteps:=1000000) (disch:=first|omega|assumption|decide +kernel|(simp;done)|(simp;omega)|fail) [run_drawnK,hin,hD,hds,h64,hk,appD_full1,denV_fn,h1,(fx a').2.2.2.2.1]
   ·intro a _
    obtain⟨h32,h48,h64,hsea,hD,hds,hd⟩:=fx a
    simp
end Go.Proofs.YtoedpegjoccnlaaGreat.A

/-
  lifts.Cheap.
-/
namespace Go.Proofs.YtoedpegjoccnlaaGreat.A
open Go.Ab
def boatAt(n:Sea)(b:Int):Boat:=n.boats.getD b.toNat default
def holdsAt(n:Sea)(c:List Int)(i:Nat):Bool:=decide (needS n i≤(boatAt n (c.getD i 0)).carry)
def holdsS(n:Sea)(c:List Int):Bool:=allB (holdsAt n c) (List.range c.length)
theorem e_holds05(n:Sea)(hok:seaOk n=true)(c:List Int)(hc: ∀x:Int,x∈c→0≤x∧x<(n.boats.length:Int))(hcl:c.length≤4)(d l:Nat)(S:Stk)(hd:d<S.length)(h:sget S d l=some (.cell (seaCell n)))(lab):
 den T 74 [.ptr d l 0, .sl .no 1 (es cInt c)] lab S=some (.bool (holdsS n c),S):=by
 have hd': ¬d=S.length:=by omega
 have key:Run T b74l0 [(0, .ptr d l 0),(7, .sl .no 1 (es cInt c)),(8,i64 c.length),(9,i64 0)] ([]::S)=
  if allB (holdsAt n c) (List.range c.length)=true then some (.exit 0,[(0, .ptr d l 0),(7, .sl .no 1 (es cInt c)),(8,i64 c.length),(9,i64 c.length),(10, .bool false)],[]::S)else some (.ret,[(4, .bool false)],[]::S):=by
  refine loop_all (List.range c.length) (holdsAt n c) (fun k=>[(0, .ptr d l 0),(7, .sl .no 1 (es cInt c)),(8,i64 c.length),(9,i64 k)]) (fun _=>[]::S) _ _ (by simp) (by simp) ?_ (by simp) _ _ (by simp[hd']) (by simp)
  intro k hk
  simp only[List.length_range]at hk
  simp only[List.getElem_range]
  obtain⟨h1,h2⟩:=hc c[k] (List.getElem_mem hk)
  have h3:c[k].toNat<n.boats.length:=by omega
  have hn:=fun lab=>e_need n hok k (by omega) d l ([]::S) (by simp;omega) (by rw[sget_cons,if_neg hd',h]) lab
  have hat:holdsAt n c k=decide (needS n k≤n.boats[c[k].toNat].carry):=by simp[holdsAt,boatAt,hk,h3]
  rw[hat]
  by_cases h4:n.boats[c[k].toNat].carry<needS n k
  ·have h5: ¬needS n k≤n.boats[c[k].toNat].carry:=by omega
   simp (disch:=first|omega|assumption|decide +kernel|(simp;done)|(simp;omega)|fail) [hk,h,hd',h1,h3,hn,h4,h5,seaCell]
  ·have h5:needS n k≤n.boats[c[k].toNat].carry:=by omega
   simp (disch:=first|omega|assumption|decide +kernel|(simp;done)|(simp;omega)|fail) [hk,h,hd',h1,h3,hn,h4,h5,seaCell,wk k (by omega)]
 rw[den_fn t74 _ _ _ rfl]
 simp only[b74]
 cases hx:allB (holdsAt n c) (List.range c.length)
 ·simp (disch:=first|omega|assumption|decide +kernel|(simp;done)|(simp;omega)|fail) [key,hx,holdsS,hd']
 ·simp (disch:=first|omega|assumption|decide +kernel|(simp;done)|(simp;omega)|fail) [key,hx,holdsS,hd']
theorem e_crews05(n:Sea)(hb:n.boats.length≤6)(hm:n.places.length≤4) {σ:Type} {d l ds ls D:Nat} {St:σ→Stk} {Y:σ→List Int→σ×Bool}(y:Yield05 n σ d l ds ls D St Y)(a:σ)(lab):
 den T 89 [.ptr ds ls 0, .yld d l] lab (St a)=some (.tup [],St (foldB Y (crewsFrom n.boats.length n.places.length []) a).1):=by
 have h:=fun lab=>e_from05 n hb hm y n.places.length [] (by simp) (by simp) [] a lab
 have hl:=y.len a
 have hds: ¬ds=(St a).length:=by have:=y.lt;omega
 have hd: ¬d=(St a).length:=by have:=y.ltd;omega
 simp only[es_nil,List.nil_append,←hl,crewsFrame]at h
 rw[den_fn t89 _ _ _ rfl]
 simp only[b89]
 simp (disch:=first|omega|assumption|decide +kernel|(simp;done)|(simp;omega)|fail) [denV_fn,h,hds,hd]
def costS(n:Sea)(c:List Int):Int:=c.foldl (fun a b=>a+(boatAt n b).pence) 0
def cheapY(n:Sea)(a:Option (List Int)×Int)(c:List Int):Option (List Int)×Int:=if holdsS n c=true then(if a.2<0∨costS n c<a.2 then(some c,costS n c)else a)else a
def crewV:Option (List Int)→V
 |none=> .sl .full 1 []
 |some c=> .sl .no 1 (es cInt c)
theorem cost_l(n:Sea)(hok:seaOk n=true)(c:List Int)(hc: ∀x:Int,x∈c→0≤x∧x<(n.boats.length:Int))(hcl:c.length≤4)(d ds ls:Nat)(X:Stk)(hd: ¬d=X.length)(hds: ¬ds=X.length)(h16:sget X d 16=some (.cell [.ptr ds ls 0]))(hsea:sget X ds ls=some (.cell (seaCell n))):
 Run T b66l0 [(1, .ptr d 16 0),(2, .ptr d 32 0),(3, .ptr d 48 0),(4, .sl .no 1 (es cInt c)),(5,i64 0),(15, .sl .no 1 (es cInt c)),(16,i64 c.length),(17,i64 0)] ([]::X)=
  some (.exit 2,[(1, .ptr d 16 0),(2, .ptr d 32 0),(3, .ptr d 48 0),(4, .sl .no 1 (es cInt c)),(5,i64 (costS n c)),(15, .sl .no 1 (es cInt c)),(16,i64 c.length),(17,i64 c.length),(18, .bool false)],[]::X):=by
 refine loop_fold c (fun k (a:Int)=>0≤a∧a≤99*k) (fun(a:Int) b=>a+(boatAt n b).pence) (fun k a=>[(1, .ptr d 16 0),(2, .ptr d 32 0),(3, .ptr d 48 0),(4, .sl .no 1 (es cInt c)),(5,i64 a),(15, .sl .no 1 (es cInt c)),(16,i64 c.length),(17,i64 k)]) (fun _ _=>[]::X)
  (fun a=>(.exit 2,[(1, .ptr d 16 0),(2, .ptr d 32 0),(3, .ptr d 48 0),(4, .sl .no 1 (es cInt c)),(5,i64 a),(15, .sl .no 1 (es cInt c)),(16,i64 c.length),(17,i64 c.length),(18, .bool false)],[]::X)) (by simp) ?_ ?_ ?_ 0 (by simp) _ _ (by simp[hd]) (by simp)
 ·intro k a hk hi
  obtain⟨h1,h2⟩:=hc c[k] (List.getElem_mem hk)
  have h3:c[k].toNat<n.boats.length:=by omega
  have hb:boatAt n c[k]=n.boats[c[k].toNat]:=by simp[boatAt,h3]
  have hp:0≤n.boats[c[k].toNat].pence∧n.boats[c[k].toNat].pence≤99:=by
   have:=(seaOk_iff.1 hok).2.2.2.2.1 _ (List.getElem_mem h3)
   simp only[boatOk,Bool.and_eq_true,within_iff]at this;exact this.2
  rw[hb]
  simp (disch:=first|omega|assumption|decide +kernel|(simp;done)|(simp;omega)|fail) [hk,hd,hds,h16,hsea,h1,h3,seaCell,wi,wk k (by omega)]
 ·intro k a hk hi
  obtain⟨h1,h2⟩:=hc c[k] (List.getElem_mem hk)
  have h3:c[k].toNat<n.boats.length:=by omega
  have hb:boatAt n c[k]=n.boats[c[k].toNat]:=by simp[boatAt,h3]
  have hp:0≤n.boats[c[k].toNat].pence∧n.boats[c[k].toNat].pence≤99:=by
   have:=(seaOk_iff.1 hok).2.2.2.2.1 _ (List.getElem_mem h3)
   simp only[boatOk,Bool.and_eq_true,within_iff]at this;exact this.2
  rw[hb];omega
 ·intro a hi
  simp[hd]
def cheapEnv(d ds ls:Nat):Env:=[(1, .ptr d 16 0),(2, .ptr d 32 0),(3, .ptr d 48 0),(9, .fn 89 [.ptr ds ls 0] [])]
def cheapF(d ds ls:Nat)(x:LoopState)(a:Option (List Int)×Int):Ab.Loc:=[(16, .cell [.ptr ds ls 0]),(32, .cell [crewV a.1]),(48, .cell [i64 a.2]),(16903, .loop [10] b66l1 b66l2 (cheapEnv d ds ls) x none)]
theorem cheap_body(n:Sea)(hok:seaOk n=true)(c:List Int)(hc: ∀x:Int,x∈c→0≤x∧x<(n.boats.length:Int))(hcl:c.length≤4)(d ds ls:Nat)(X:Option (List Int)×Int→Stk)(hd: ∀a,¬d=(X a).length)(hds: ∀a,ds<(X a).length)(h16: ∀a,sget (X a) d 16=some (.cell [.ptr ds ls 0]))(hsea: ∀a,sget (X a) ds ls=some (.cell (seaCell n)))
 (h32: ∀a,sget (X a) d 32=some (.cell [crewV a.1])) (h48: ∀a,sget (X a) d 48=some (.cell [i64 a.2])) (p32: ∀a c,sput (X a) d 32 (.cell [.sl .no 1 (es cInt c)])=X (some c,a.2)) (p48: ∀a m,sput (X a) d 48 (.cell [i64 m])=X (a.1,m)) (a):
 ∃e,Run T b66l2 [(1, .ptr d 16 0),(2, .ptr d 32 0),(3, .ptr d 48 0),(4, .sl .no 1 (es cInt c))] ([]::X a)=some (.normal,e,[]::X (cheapY n a c)):=by
 have hds': ∀a,¬ds=(X a).length:=fun a=>by have:=hds a;omega
 have hh:=fun a lab=>e_holds05 n hok c hc hcl ds ls ([]::X a) (by have:=hds a;simp;omega) (by rw[sget_cons,if_neg (hds' a),hsea a]) lab
 have hcost:=cost_l n hok c hc hcl d ds ls (X a) (hd a) (hds' a) (h16 a) (hsea a)
 have hdl: ∀a,d<(X a).length→True:=fun _ _=>trivial
 simp only[b66l2]
 cases x0:holdsS n c
 ·refine⟨[(1, .ptr d 16 0),(2, .ptr d 32 0),(3, .ptr d 48 0),(4, .sl .no 1 (es cInt c)),(14, .bool true)],?_⟩
  have e1:cheapY n a c=a:=by simp[cheapY,x0]
  rw[e1]
  simp (disch:=first|omega|assumption|decide +kernel|(simp;done)|(simp;omega)|fail) [hd,hds',h16,hh,x0]
 ·by_cases x1:a.2<0
  ·refine⟨[(2, .ptr d 32 0),(3, .ptr d 48 0)],?_⟩
   have e1:cheapY n a c=(some c,costS n c):=by simp[cheapY,x0,x1]
   rw[e1]
   simp (disch:=first|omega|assumption|decide +kernel|(simp;done)|(simp;omega)|fail) [hd,hds',h16,hh,x0,x1,hcost,h48,h32,p32,p48]
  ·by_cases x2:costS n c<a.2
   ·refine⟨[(2, .ptr d 32 0),(3, .ptr d 48 0)],?_⟩
    have e1:cheapY n a c=(some c,costS n c):=by simp[cheapY,x0,x2]
    rw[e1]
    simp (disch:=first|omega|assumption|decide +kernel|(simp;done)|(simp;omega)|fail) [hd,hds',h16,hh,x0,x1,x2,hcost,h48,h32,p32,p48]
   ·refine⟨[(2, .ptr d 32 0),(3, .ptr d 48 0),(4, .sl .no 1 (es cInt c)),(5,i64 (costS n c)),(39, .bool false)],?_⟩
    have e1:cheapY n a c=a:=by simp[cheapY,x0,x1,x2]
    rw[e1]
    simp (disch:=first|omega|assumption|decide +kernel|(simp;done)|(simp;omega)|fail) [hd,hds',h16,hh,x0,x1,x2,hcost,h48]
theorem cheap_yield(n:Sea)(hok:seaOk n=true)(ds ls:Nat)(S0:Stk)(hds:ds<S0.length)(hsea:sget S0 ds ls=some (.cell (seaCell n))):
 Yield05 n (Option (List Int)×Int) S0.length 16903 ds ls (S0.length+1) (fun a=>cheapF S0.length ds ls .ready a::S0) (fun a c=>(cheapY n a c,true)) where
 len:=fun a=>by simp
 lt:=by omega
 ltd:=by omega
 sea:=fun a=>by rw[sget_cons,if_neg (by omega),hsea]
 yield:=fun fr a c lab hc hcl=>by
  have hm:=(seaOk_iff.1 hok).2.1
  have top: ∀(x:LoopState) a l',sget (fr ++cheapF S0.length ds ls x a::S0) S0.length l'=(cheapF S0.length ds ls x a).get l':=fun x a l'=>by
   rw[sget_append _ _ _ _ (by simp),sget_top]
  have put: ∀(x:LoopState) a l' en,sput (fr ++cheapF S0.length ds ls x a::S0) S0.length l' en=fr ++(cheapF S0.length ds ls x a).put l' en::S0:=fun x a l' en=>by
   rw[sput_append _ _ _ _ _ (by simp),sput_top]
  have hlen: ∀(x:LoopState) a,S0.length<(fr ++cheapF S0.length ds ls x a::S0).length:=fun x a=>by simp;omega
  obtain⟨e,hB⟩:=cheap_body n hok c hc (by omega) S0.length ds ls (fun a=>fr ++cheapF S0.length ds ls .busy a::S0) (fun a=>by have:=hlen .busy a;omega) (fun a=>by have:=hlen .busy a;omega) (fun a=>by rw[top];rfl)
   (fun a=>by
     have h1:ds<(cheapF S0.length ds ls .busy a::S0).length:=by simp;omega
     rw[sget_append ds ls fr _ h1,sget_cons,if_neg (by omega),hsea]) (fun a=>by rw[top];rfl) (fun a=>by rw[top];rfl) (fun a c=>by rw[put];rfl) (fun a m=>by rw[put];rfl) a
  refine(yld_run (ps:=[10]) (A:=b66l1) (B:=b66l2) (env:=cheapEnv S0.length ds ls) (ex:= .normal) (st:= .busy) (p:=none) (s3:=fr ++cheapF S0.length ds ls .busy (cheapY n a c)::S0) (by rw[top];rfl) rfl (e1:=[(1, .ptr S0.length 16 0),(2, .ptr S0.length 32 0),(3, .ptr S0.length 48 0),(4, .sl .no 1 (es cInt c))]) (fr1:=[]) ?_ (hlen _ _) (e2:=e) (fr2:=[]) ?_ (by rw[top];rfl)).trans ?_
  ·simp[b66l1,cheapEnv,bindEnv]
  ·rw[put];exact hB
  ·rw[put];rfl
theorem foldB_true {α σ:Type}(f:σ→α→σ): ∀(l:List α) (a:σ),foldB (fun a x=>(f a x,true)) l a=(l.foldl f a,true)
 |[],_=>rfl
 |x::l,a=>by simp only[foldB,if_true,foldB_true f l,List.foldl_cons]
def cheapS(n:Sea):Option (List Int)×Int:=(crewsFrom n.boats.length n.places.length []).foldl (cheapY n) (none,-1)
set_option maxHeartbeats 1000000 in
theorem e_cheapest(n:Sea)(hok:seaOk n=true)(ds ls:Nat)(S0:Stk)(hds:ds<S0.length)(hsea:sget S0 ds ls=some (.cell (seaCell n)))(lab):
 den T 66 [.ptr ds ls 0] lab S0=some (.tup [.sl .no 1 (es cInt ((cheapS n).1.getD [])),i64 (cheapS n).2],S0):=by
 have h:=e_crews05 n (seaOk_iff.1 hok).2.2.1 (seaOk_iff.1 hok).2.1 (cheap_yield n hok ds ls S0 hds hsea) (none,-1)
 rw[foldB_true]at h
 change∀lab,den T _ _ lab _=some (_,cheapF S0.length ds ls .ready (cheapS n)::S0)at h
 simp only[cheapF,crewV,cheapEnv]at h
 have hds': ¬ds=S0.length:=by omega
 rw[den_fn t66 _ _ _ rfl]
 simp only[b66]
 generalize cheapS n=q at h
 obtain⟨v,m⟩:=q
 cases v
 ·simp (maxSteps:=1000000) (disch:=first|omega|assumption|decide +kernel|(simp;done)|(simp;omega)|fail) [run_drawnK,h,hds',crewV]
 ·simp (maxSteps:=1000000) (disch:=first|omega|assumption|decide +kernel|(simp;done)|(simp;omega)|fail) [run_drawnK,h,hds',crewV]
end Go.Proofs.YtoedpegjoccnlaaGreat.A

/-
  lifts.Cheap; skies.open.
-/
namespace Go.Proofs.YtoedpegjoccnlaaGreat.A
open Go.Ab
def cheapR(n:Sea):Int×Int:=if seaOk n=true then(if (cheapS n).2<0 then(0,3)else((cheapS n).2,0))else(0,50)
@[simp] theorem e_Cheap(n0:Int)(n1:Int)(n2:List Sp)(n3:List Boat)(lab s):den T 40 [.agg [i64 n0,i64 n1, .sl .no 2 (es cSp n2), .sl .no 2 (es cBoat n3)]] lab s=some (.tup [i64 (cheapR (⟨⟨n0,n1⟩,n2,n3⟩:Sea)).1,i64 (cheapR (⟨⟨n0,n1⟩,n2,n3⟩:Sea)).2],s):=by
 rw[den_fn t40 _ _ _ rfl]
 simp only[b40]
 cases h:seaOk (⟨⟨n0,n1⟩,n2,n3⟩:Sea)
 ·have h1:=fun lab loc s=>e_open05_bad n0 n1 n2 n3 h lab loc s
  simp (disch:=first|omega|assumption|decide +kernel|(simp;done)|(simp;omega)|fail) [h,h1,cheapR]
 ·have h1:=fun lab loc s k0=>e_open05 n0 n1 n2 n3 h lab loc s k0
  have h2:=fun lab=>e_cheapest (⟨⟨n0,n1⟩,n2,n3⟩:Sea) h s.length 160 ([(16, .cell [i64 n0,i64 n1, .sl .no 2 (es cSp n2), .sl .no 2 (es cBoat n3)]),(160, .cell (seaCell (⟨⟨n0,n1⟩,n2,n3⟩:Sea)))]::s) (by simp) ((sget_top _ _ _).trans rfl) lab
  by_cases h3:(cheapS (⟨⟨n0,n1⟩,n2,n3⟩:Sea)).2<0
  ·simp (disch:=first|omega|assumption|decide +kernel|(simp;done)|(simp;omega)|fail) [h,h1,h2,h3,cheapR]
  ·simp (disch:=first|omega|assumption|decide +kernel|(simp;done)|(simp;omega)|fail) [h,h1,h2,h3,cheapR]
def calmS(n:Season)(i:Nat):Int:=match n.skies[i]? with
 |some x=>safeS {n.net with wind:=x.wind,cur:=x.cur}
 |none=>0
def holdS(n:Season)(i:Nat):Int:=match n.days[i]? with
 |some w=>if (cheapR {n.sea with weight:=w}).2=0 then 1 else 0
 |none=>0
def calmK(n:Season)(k i:Nat):Int:=if i<k then calmS n i else 0
def holdK(n:Season)(k i:Nat):Int:=if i<k then holdS n i else 0
theorem calmK_all(n:Season): ∀i,calmK n n.skies.length i=calmS n i:=by
 intro i;unfold calmK;split
 ·rfl
 ·simp[calmS,List.getElem?_eq_none (show n.skies.length≤i by omega)]
theorem holdK_all(n:Season): ∀i,holdK n n.days.length i=holdS n i:=by
 intro i;unfold holdK;split
 ·rfl
 ·simp[holdS,List.getElem?_eq_none (show n.days.length≤i by omega)]
set_option maxHeartbeats 4000000 in
theorem e_open13_l0(n0:Int)(n1:Int)(n2:Int)(n3:Int)(n4:List Sp)(n5:List Anc)(n6:List Wal)(n7:Int)(n8:Int)(n9:List Sp)(n10:List Boat)(n11:List Sky)(n12:List (List Int))(n13:List Int)(n14:List Sp)(s:Stk)(h4:n4.length<4611686018427387904)(h5:n5.length<4611686018427387904)(h6:n6.length<4611686018427387904)(hl:n11.length≤4):
 Run T b60l0 [(2, .ptr s.length 32 0),(7, .ptr s.length 400 0),(27, .sl .no 4 (es cSky n11)),(28,i64 n11.length),(29,i64 0)] ([(32, .cell [i64 n0,i64 n1,i64 n2,i64 n3, .sl .no 2 (es cSp n4), .sl .no 2 (es cAnc n5), .sl .no 5 (es cWal n6),i64 n7,i64 n8, .sl .no 2 (es cSp n9), .sl .no 2 (es cBoat n10), .sl .no 4 (es cSky n11), .sl .no 1 (es cInts n12), .sl .no 1 (es cInt n13), .sl .no 2 (es cSp n14)]),(400, .cell [i64 n0,i64 n1,i64 n2,i64 n3, .sl .no 2 (es cSp n4), .sl .no 2 (es cAnc n5), .sl .no 5 (es cWal n6),i64 n7,i64 n8, .sl .no 2 (es cSp n9), .sl .no 2 (es cBoat n10), .sl .no 4 (es cSky n11), .sl .no 1 (es cInts n12), .sl .no 1 (es cInt n13), .sl .no 2 (es cSp n14),i64 0,i64 0,i64 0,i64 0,i64 0,i64 0,i64 0,i64 0,i64 0])]::s)=
  some (.exit 0,[(2, .ptr s.length 32 0),(7, .ptr s.length 400 0),(27, .sl .no 4 (es cSky n11)),(28,i64 n11.length),(29,i64 n11.length),(30, .bool false)],
   [(32, .cell [i64 n0,i64 n1,i64 n2,i64 n3, .sl .no 2 (es cSp n4), .sl .no 2 (es cAnc n5), .sl .no 5 (es cWal n6),i64 n7,i64 n8, .sl .no 2 (es cSp n9), .sl .no 2 (es cBoat n10), .sl .no 4 (es cSky n11), .sl .no 1 (es cInts n12), .sl .no 1 (es cInt n13), .sl .no 2 (es cSp n14)]),(400, .cell [i64 n0,i64 n1,i64 n2,i64 n3, .sl .no 2 (es cSp n4), .sl .no 2 (es cAnc n5), .sl .no 5 (es cWal n6),i64 n7,i64 n8, .sl .no 2 (es cSp n9), .sl .no 2 (es cBoat n10), .sl .no 4 (es cSky n11), .sl .no 1 (es cInts n12), .sl .no 1 (es cInt n13), .sl .no 2 (es cSp n14),i64 (calmS (⟨⟨⟨n0,n1⟩,⟨n2,n3⟩,n4,n5,n6⟩,⟨⟨n7,n8⟩,n9,n10⟩,n11,n12,n13,n14⟩:Season) 0),i64 (calmS (⟨⟨⟨n0,n1⟩,⟨n2,n3⟩,n4,n5,n6⟩,⟨⟨n7,n8⟩,n9,n10⟩,n11,n12,n13,n14⟩:Season) 1),i64 (calmS (⟨⟨⟨n0,n1⟩,⟨n2,n3⟩,n4,n5,n6⟩,⟨⟨n7,n8⟩,n9,n10⟩,n11,n12,n13,n14⟩:Season) 2),i64 (calmS (⟨⟨⟨n0,n1⟩,⟨n2,n3⟩,n4,n5,n6⟩,⟨⟨n7,n8⟩,n9,n10⟩,n11,n12,n13,n14⟩:Season) 3),i64 0,i64 0,i64 0,i64 0,i64 0])]::s):=by
 have key:=loop_fold (T:=T) (live:=[2,7,27,28,29]) (keep:=[32,192,208,272,400,1072]) (b:=d60l0) n11 (fun _ (_:Unit)=>True) (fun a _=>a)
  (fun k _=>[(2, .ptr s.length 32 0),(7, .ptr s.length 400 0),(27, .sl .no 4 (es cSky n11)),(28,i64 n11.length),(29,i64 k)]) (fun k _=>[(32, .cell [i64 n0,i64 n1,i64 n2,i64 n3, .sl .no 2 (es cSp n4), .sl .no 2 (es cAnc n5), .sl .no 5 (es cWal n6),i64 n7,i64 n8, .sl .no 2 (es cSp n9), .sl .no 2 (es cBoat n10), .sl .no 4 (es cSky n11), .sl .no 1 (es cInts n12), .sl .no 1 (es cInt n13), .sl .no 2 (es cSp n14)]),(400, .cell [i64 n0,i64 n1,i64 n2,i64 n3, .sl .no 2 (es cSp n4), .sl .no 2 (es cAnc n5), .sl .no 5 (es cWal n6),i64 n7,i64 n8, .sl .no 2 (es cSp n9), .sl .no 2 (es cBoat n10), .sl .no 4 (es cSky n11), .sl .no 1 (es cInts n12), .sl .no 1 (es cInt n13), .sl .no 2 (es cSp n14),i64 (calmK (⟨⟨⟨n0,n1⟩,⟨n2,n3⟩,n4,n5,n6⟩,⟨⟨n7,n8⟩,n9,n10⟩,n11,n12,n13,n14⟩:Season) k 0),i64 (calmK (⟨⟨⟨n0,n1⟩,⟨n2,n3⟩,n4,n5,n6⟩,⟨⟨n7,n8⟩,n9,n10⟩,n11,n12,n13,n14⟩:Season) k 1),i64 (calmK (⟨⟨⟨n0,n1⟩,⟨n2,n3⟩,n4,n5,n6⟩,⟨⟨n7,n8⟩,n9,n10⟩,n11,n12,n13,n14⟩:Season) k 2),i64 (calmK (⟨⟨⟨n0,n1⟩,⟨n2,n3⟩,n4,n5,n6⟩,⟨⟨n7,n8⟩,n9,n10⟩,n11,n12,n13,n14⟩:Season) k 3),i64 0,i64 0,i64 0,i64 0,i64 0])]::s)
  (fun _=>(.exit 0,[(2, .ptr s.length 32 0),(7, .ptr s.length 400 0),(27, .sl .no 4 (es cSky n11)),(28,i64 n11.length),(29,i64 n11.length),(30, .bool false)],
    [(32, .cell [i64 n0,i64 n1,i64 n2,i64 n3, .sl .no 2 (es cSp n4), .sl .no 2 (es cAnc n5), .sl .no 5 (es cWal n6),i64 n7,i64 n8, .sl .no 2 (es cSp n9), .sl .no 2 (es cBoat n10), .sl .no 4 (es cSky n11), .sl .no 1 (es cInts n12), .sl .no 1 (es cInt n13), .sl .no 2 (es cSp n14)]),(400, .cell [i64 n0,i64 n1,i64 n2,i64 n3, .sl .no 2 (es cSp n4), .sl .no 2 (es cAnc n5), .sl .no 5 (es cWal n6),i64 n7,i64 n8, .sl .no 2 (es cSp n9), .sl .no 2 (es cBoat n10), .sl .no 4 (es cSky n11), .sl .no 1 (es cInts n12), .sl .no 1 (es cInt n13), .sl .no 2 (es cSp n14),i64 (calmK (⟨⟨⟨n0,n1⟩,⟨n2,n3⟩,n4,n5,n6⟩,⟨⟨n7,n8⟩,n9,n10⟩,n11,n12,n13,n14⟩:Season) n11.length 0),i64 (calmK (⟨⟨⟨n0,n1⟩,⟨n2,n3⟩,n4,n5,n6⟩,⟨⟨n7,n8⟩,n9,n10⟩,n11,n12,n13,n14⟩:Season) n11.length 1),i64 (calmK (⟨⟨⟨n0,n1⟩,⟨n2,n3⟩,n4,n5,n6⟩,⟨⟨n7,n8⟩,n9,n10⟩,n11,n12,n13,n14⟩:Season) n11.length 2),i64 (calmK (⟨⟨⟨n0,n1⟩,⟨n2,n3⟩,n4,n5,n6⟩,⟨⟨n7,n8⟩,n9,n10⟩,n11,n12,n13,n14⟩:Season) n11.length 3),i64 0,i64 0,i64 0,i64 0,i64 0])]::s))
  (by simp) ?_ (by simp) ?_ () trivial [(2, .ptr s.length 32 0),(7, .ptr s.length 400 0),(27, .sl .no 4 (es cSky n11)),(28,i64 n11.length),(29,i64 0)] ([(32, .cell [i64 n0,i64 n1,i64 n2,i64 n3, .sl .no 2 (es cSp n4), .sl .no 2 (es cAnc n5), .sl .no 5 (es cWal n6),i64 n7,i64 n8, .sl .no 2 (es cSp n9), .sl .no 2 (es cBoat n10), .sl .no 4 (es cSky n11), .sl .no 1 (es cInts n12), .sl .no 1 (es cInt n13), .sl .no 2 (es cSp n14)]),(400, .cell [i64 n0,i64 n1,i64 n2,i64 n3, .sl .no 2 (es cSp n4), .sl .no 2 (es cAnc n5), .sl .no 5 (es cWal n6),i64 n7,i64 n8, .sl .no 2 (es cSp n9), .sl .no 2 (es cBoat n10), .sl .no 4 (es cSky n11), .sl .no 1 (es cInts n12), .sl .no 1 (es cInt n13), .sl .no 2 (es cSp n14),i64 0,i64 0,i64 0,i64 0,i64 0,i64 0,i64 0,i64 0,i64 0])]::s) (by simp) (by simp[calmK])
 ·have e:=calmK_all (⟨⟨⟨n0,n1⟩,⟨n2,n3⟩,n4,n5,n6⟩,⟨⟨n7,n8⟩,n9,n10⟩,n11,n12,n13,n14⟩:Season)
  simp only at e
  simp only[e]at key
  exact key
 ·intro k a hk _
  have hck:calmS (⟨⟨⟨n0,n1⟩,⟨n2,n3⟩,n4,n5,n6⟩,⟨⟨n7,n8⟩,n9,n10⟩,n11,n12,n13,n14⟩:Season) k=safeS ⟨n11[k].wind,n11[k].cur,n4,n5,n6⟩:=by simp[calmS,hk]
  have hki:(k:Int)<n11.length:=by omega
  obtain rfl|rfl|rfl|rfl:k=0∨k=1∨k=2∨k=3:=by omega
  all_goals (simp (maxSteps:=1000000) (disch:=first|omega|assumption|decide +kernel|(simp;done)|(simp;omega)|fail) [run_drawnK,hk,hki,calmK,hck,wi]<;>omega)
 ·intro a _
  simp
set_option maxHeartbeats 4000000 in
theorem e_open13_l1(n0:Int)(n1:Int)(n2:Int)(n3:Int)(n4:List Sp)(n5:List Anc)(n6:List Wal)(n7:Int)(n8:Int)(n9:List Sp)(n10:List Boat)(n11:List Sky)(n12:List (List Int))(n13:List Int)(n14:List Sp)(c0 c1 c2 c3:Int)(s:Stk)(hl:n14.length≤5):
 Run T b60l1 [(2, .ptr s.length 32 0),(7, .ptr s.length 400 0),(54, .sl .no 2 (es cSp n14)),(55,i64 n14.length),(56,i64 0)] ([(32, .cell [i64 n0,i64 n1,i64 n2,i64 n3, .sl .no 2 (es cSp n4), .sl .no 2 (es cAnc n5), .sl .no 5 (es cWal n6),i64 n7,i64 n8, .sl .no 2 (es cSp n9), .sl .no 2 (es cBoat n10), .sl .no 4 (es cSky n11), .sl .no 1 (es cInts n12), .sl .no 1 (es cInt n13), .sl .no 2 (es cSp n14)]),(400, .cell [i64 n0,i64 n1,i64 n2,i64 n3, .sl .no 2 (es cSp n4), .sl .no 2 (es cAnc n5), .sl .no 5 (es cWal n6),i64 n7,i64 n8, .sl .no 2 (es cSp n9), .sl .no 2 (es cBoat n10), .sl .no 4 (es cSky n11), .sl .no 1 (es cInts n12), .sl .no 1 (es cInt n13), .sl .no 2 (es cSp n14),i64 c0,i64 c1,i64 c2,i64 c3,i64 0,i64 0,i64 0,i64 0,i64 0])]::s)=
  some (.exit 2,[(2, .ptr s.length 32 0),(7, .ptr s.length 400 0),(54, .sl .no 2 (es cSp n14)),(55,i64 n14.length),(56,i64 n14.length),(57, .bool false)],
   [(32, .cell [i64 n0,i64 n1,i64 n2,i64 n3, .sl .no 2 (es cSp n4), .sl .no 2 (es cAnc n5), .sl .no 5 (es cWal n6),i64 n7,i64 n8, .sl .no 2 (es cSp n9), .sl .no 2 (es cBoat n10), .sl .no 4 (es cSky n11), .sl .no 1 (es cInts n12), .sl .no 1 (es cInt n13), .sl .no 2 (es cSp n14)]),(400, .cell [i64 n0,i64 n1,i64 n2,i64 n3, .sl .no 2 (es cSp n4), .sl .no 2 (es cAnc n5), .sl .no 5 (es cWal n6),i64 n7,i64 n8, .sl .no 2 (es cSp n9), .sl .no 2 (es cBoat n10), .sl .no 4 (es cSky n11), .sl .no 1 (es cInts n12), .sl .no 1 (es cInt n13), .sl .no 2 (es cSp n14),i64 c0,i64 c1,i64 c2,i64 c3,i64 (holdS (⟨⟨⟨n0,n1⟩,⟨n2,n3⟩,n4,n5,n6⟩,⟨⟨n7,n8⟩,n9,n10⟩,n11,n12,n13,n14⟩:Season) 0),i64 (holdS (⟨⟨⟨n0,n1⟩,⟨n2,n3⟩,n4,n5,n6⟩,⟨⟨n7,n8⟩,n9,n10⟩,n11,n12,n13,n14⟩:Season) 1),i64 (holdS (⟨⟨⟨n0,n1⟩,⟨n2,n3⟩,n4,n5,n6⟩,⟨⟨n7,n8⟩,n9,n10⟩,n11,n12,n13,n14⟩:Season) 2),i64 (holdS (⟨⟨⟨n0,n1⟩,⟨n2,n3⟩,n4,n5,n6⟩,⟨⟨n7,n8⟩,n9,n10⟩,n11,n12,n13,n14⟩:Season) 3),i64 (holdS (⟨⟨⟨n0,n1⟩,⟨n2,n3⟩,n4,n5,n6⟩,⟨⟨n7,n8⟩,n9,n10⟩,n11,n12,n13,n14⟩:Season) 4)])]::s):=by
 have key:=loop_fold (T:=T) (live:=[2,7,54,55,56]) (keep:=[32,144,160,272,400,736]) (b:=d60l1) n14 (fun _ (_:Unit)=>True) (fun a _=>a)
  (fun k _=>[(2, .ptr s.length 32 0),(7, .ptr s.length 400 0),(54, .sl .no 2 (es cSp n14)),(55,i64 n14.length),(56,i64 k)]) (fun k _=>[(32, .cell [i64 n0,i64 n1,i64 n2,i64 n3, .sl .no 2 (es cSp n4), .sl .no 2 (es cAnc n5), .sl .no 5 (es cWal n6),i64 n7,i64 n8, .sl .no 2 (es cSp n9), .sl .no 2 (es cBoat n10), .sl .no 4 (es cSky n11), .sl .no 1 (es cInts n12), .sl .no 1 (es cInt n13), .sl .no 2 (es cSp n14)]),(400, .cell [i64 n0,i64 n1,i64 n2,i64 n3, .sl .no 2 (es cSp n4), .sl .no 2 (es cAnc n5), .sl .no 5 (es cWal n6),i64 n7,i64 n8, .sl .no 2 (es cSp n9), .sl .no 2 (es cBoat n10), .sl .no 4 (es cSky n11), .sl .no 1 (es cInts n12), .sl .no 1 (es cInt n13), .sl .no 2 (es cSp n14),i64 c0,i64 c1,i64 c2,i64 c3,i64 (holdK (⟨⟨⟨n0,n1⟩,⟨n2,n3⟩,n4,n5,n6⟩,⟨⟨n7,n8⟩,n9,n10⟩,n11,n12,n13,n14⟩:Season) k 0),i64 (holdK (⟨⟨⟨n0,n1⟩,⟨n2,n3⟩,n4,n5,n6⟩,⟨⟨n7,n8⟩,n9,n10⟩,n11,n12,n13,n14⟩:Season) k 1),i64 (holdK (⟨⟨⟨n0,n1⟩,⟨n2,n3⟩,n4,n5,n6⟩,⟨⟨n7,n8⟩,n9,n10⟩,n11,n12,n13,n14⟩:Season) k 2),i64 (holdK (⟨⟨⟨n0,n1⟩,⟨n2,n3⟩,n4,n5,n6⟩,⟨⟨n7,n8⟩,n9,n10⟩,n11,n12,n13,n14⟩:Season) k 3),i64 (holdK (⟨⟨⟨n0,n1⟩,⟨n2,n3⟩,n4,n5,n6⟩,⟨⟨n7,n8⟩,n9,n10⟩,n11,n12,n13,n14⟩:Season) k 4)])]::s)
  (fun _=>(.exit 2,[(2, .ptr s.length 32 0),(7, .ptr s.length 400 0),(54, .sl .no 2 (es cSp n14)),(55,i64 n14.length),(56,i64 n14.length),(57, .bool false)],
    [(32, .cell [i64 n0,i64 n1,i64 n2,i64 n3, .sl .no 2 (es cSp n4), .sl .no 2 (es cAnc n5), .sl .no 5 (es cWal n6),i64 n7,i64 n8, .sl .no 2 (es cSp n9), .sl .no 2 (es cBoat n10), .sl .no 4 (es cSky n11), .sl .no 1 (es cInts n12), .sl .no 1 (es cInt n13), .sl .no 2 (es cSp n14)]),(400, .cell [i64 n0,i64 n1,i64 n2,i64 n3, .sl .no 2 (es cSp n4), .sl .no 2 (es cAnc n5), .sl .no 5 (es cWal n6),i64 n7,i64 n8, .sl .no 2 (es cSp n9), .sl .no 2 (es cBoat n10), .sl .no 4 (es cSky n11), .sl .no 1 (es cInts n12), .sl .no 1 (es cInt n13), .sl .no 2 (es cSp n14),i64 c0,i64 c1,i64 c2,i64 c3,i64 (holdK (⟨⟨⟨n0,n1⟩,⟨n2,n3⟩,n4,n5,n6⟩,⟨⟨n7,n8⟩,n9,n10⟩,n11,n12,n13,n14⟩:Season) n14.length 0),i64 (holdK (⟨⟨⟨n0,n1⟩,⟨n2,n3⟩,n4,n5,n6⟩,⟨⟨n7,n8⟩,n9,n10⟩,n11,n12,n13,n14⟩:Season) n14.length 1),i64 (holdK (⟨⟨⟨n0,n1⟩,⟨n2,n3⟩,n4,n5,n6⟩,⟨⟨n7,n8⟩,n9,n10⟩,n11,n12,n13,n14⟩:Season) n14.length 2),i64 (holdK (⟨⟨⟨n0,n1⟩,⟨n2,n3⟩,n4,n5,n6⟩,⟨⟨n7,n8⟩,n9,n10⟩,n11,n12,n13,n14⟩:Season) n14.length 3),i64 (holdK (⟨⟨⟨n0,n1⟩,⟨n2,n3⟩,n4,n5,n6⟩,⟨⟨n7,n8⟩,n9,n10⟩,n11,n12,n13,n14⟩:Season) n14.length 4)])]::s))
  (by simp) ?_ (by simp) ?_ () trivial [(2, .ptr s.length 32 0),(7, .ptr s.length 400 0),(54, .sl .no 2 (es cSp n14)),(55,i64 n14.length),(56,i64 0)] ([(32, .cell [i64 n0,i64 n1,i64 n2,i64 n3, .sl .no 2 (es cSp n4), .sl .no 2 (es cAnc n5), .sl .no 5 (es cWal n6),i64 n7,i64 n8, .sl .no 2 (es cSp n9), .sl .no 2 (es cBoat n10), .sl .no 4 (es cSky n11), .sl .no 1 (es cInts n12), .sl .no 1 (es cInt n13), .sl .no 2 (es cSp n14)]),(400, .cell [i64 n0,i64 n1,i64 n2,i64 n3, .sl .no 2 (es cSp n4), .sl .no 2 (es cAnc n5), .sl .no 5 (es cWal n6),i64 n7,i64 n8, .sl .no 2 (es cSp n9), .sl .no 2 (es cBoat n10), .sl .no 4 (es cSky n11), .sl .no 1 (es cInts n12), .sl .no 1 (es cInt n13), .sl .no 2 (es cSp n14),i64 c0,i64 c1,i64 c2,i64 c3,i64 0,i64 0,i64 0,i64 0,i64 0])]::s) (by simp) (by simp[holdK])
 ·have e:=holdK_all (⟨⟨⟨n0,n1⟩,⟨n2,n3⟩,n4,n5,n6⟩,⟨⟨n7,n8⟩,n9,n10⟩,n11,n12,n13,n14⟩:Season)
  simp only at e
  simp only[e]at key
  exact key
 ·intro k a hk _
  have hki:(k:Int)<n14.length:=by omega
  by_cases hc:(cheapR ⟨⟨n14[k].lo,n14[k].hi⟩,n9,n10⟩).2=0
  ·have hck:holdS (⟨⟨⟨n0,n1⟩,⟨n2,n3⟩,n4,n5,n6⟩,⟨⟨n7,n8⟩,n9,n10⟩,n11,n12,n13,n14⟩:Season) k=1:=by simp[holdS,hk,hc]
   have hc':(cheapR ⟨n14[k],n9,n10⟩).2=0:=hc
   obtain rfl|rfl|rfl|rfl|rfl:k=0∨k=1∨k=2∨k=3∨k=4:=by omega
   all_goals (simp (maxSteps:=1000000) (disch:=first|omega|assumption|decide +kernel|(simp;done)|(simp;omega)|fail) [run_drawnK,hk,hki,holdK,hck,hc',wi]<;>omega)
  ·have hck:holdS (⟨⟨⟨n0,n1⟩,⟨n2,n3⟩,n4,n5,n6⟩,⟨⟨n7,n8⟩,n9,n10⟩,n11,n12,n13,n14⟩:Season) k=0:=by simp[holdS,hk,hc]
   have hc': ¬(cheapR ⟨n14[k],n9,n10⟩).2=0:=hc
   obtain rfl|rfl|rfl|rfl|rfl:k=0∨k=1∨k=2∨k=3∨k=4:=by omega
   all_goals (simp (maxSteps:=1000000) (disch:=first|omega|assumption|decide +kernel|(simp;done)|(simp;omega)|fail) [run_drawnK,hk,hki,holdK,hck,hc',wi]<;>omega)
 ·intro a _
  simp
end Go.Proofs.YtoedpegjoccnlaaGreat.A

/-
  The season at work: may, worth, least, lift, brings.
-/
namespace Go.Proofs.YtoedpegjoccnlaaGreat.A
open Go.Ab
def seasonCell(n:Season):List V:=[i64 n.net.wind.lo,i64 n.net.wind.hi,i64 n.net.cur.lo,i64 n.net.cur.hi, .sl .no 2 (es cSp n.net.grips), .sl .no 2 (es cAnc n.net.anch), .sl .no 5 (es cWal n.net.walls),i64 n.sea.weight.lo,i64 n.sea.weight.hi, .sl .no 2 (es cSp n.sea.places), .sl .no 2 (es cBoat n.sea.boats), .sl .no 4 (es cSky n.skies), .sl .no 1 (es cInts n.follows), .sl .no 1 (es cInt n.first), .sl .no 2 (es cSp n.days),
 i64 (calmS n 0),i64 (calmS n 1),i64 (calmS n 2),i64 (calmS n 3),i64 (holdS n 0),i64 (holdS n 1),i64 (holdS n 2),i64 (holdS n 3),i64 (holdS n 4)]
def mayS(n:Season)(day sky:Nat):Bool:=decide (calmS n sky=1)&&decide (holdS n day=1)
theorem e_may(n:Season)(day sky:Nat)(h1:day<5)(h2:sky<4)(d l:Nat)(S:Stk)(hd:d<S.length)(h:sget S d l=some (.cell (seasonCell n)))(lab):
 den T 62 [.ptr d l 0,i64 day,i64 sky] lab S=some (.bool (mayS n day sky),S):=by
 have hd': ¬d=S.length:=by omega
 have hx: ∃v,(seasonCell n)[15+sky]? =some (i64 v)∧v=calmS n sky:=by
  obtain rfl|rfl|rfl|rfl:sky=0∨sky=1∨sky=2∨sky=3:=by omega
  all_goals exact⟨_,rfl,rfl⟩
 have hy: ∃v,(seasonCell n)[19+day]? =some (i64 v)∧v=holdS n day:=by
  obtain rfl|rfl|rfl|rfl|rfl:day=0∨day=1∨day=2∨day=3∨day=4:=by omega
  all_goals exact⟨_,rfl,rfl⟩
 obtain⟨v,hv,rfl⟩:=hx
 obtain⟨u,hu,rfl⟩:=hy
 have hs:((sky:Int))<4:=by omega
 have hdy:((day:Int))<5:=by omega
 rw[den_fn t62 _ _ _ rfl]
 simp only[b62]
 by_cases c0:calmS n sky=1
 ·by_cases c1:holdS n day=1
  ·simp (disch:=first|omega|assumption|decide +kernel|(simp;done)|(simp;omega)|fail) [h,hd',hv,hu,hs,hdy,c0,c1,mayS]
  ·simp (disch:=first|omega|assumption|decide +kernel|(simp;done)|(simp;omega)|fail) [h,hd',hv,hu,hs,hdy,c0,c1,mayS]
 ·simp (disch:=first|omega|assumption|decide +kernel|(simp;done)|(simp;omega)|fail) [h,hd',hv,hu,hs,hdy,c0,mayS]
def leastL(f:Int→Int)(l:List Int):Int:=l.foldl (fun a x=>min a (f x)) 2000
theorem e_least(n:Season)(day:Nat)(f:Int→Int)(l:List Int)(hl:l.length<4611686018427387904)(d lb:Nat)(S:Stk)(hd:d<S.length)(hf: ∀x,x∈l→ ∀lab,den T 99 [.ptr d lb 0,i64 day,i64 x] lab ([]::S)=some (i64 (f x),[]::S))(lab):
 den T 83 [.ptr d lb 0,i64 day, .sl .no 1 (es cInt l)] lab S=some (i64 (leastL f l),S):=by
 have hd': ¬d=S.length:=by omega
 have key:=loop_fold (T:=T) (live:=[0,1,7,10,11,12]) (keep:=[]) (b:=d83l0) l (fun _ (_:Int)=>True) (fun a x=>min a (f x))
  (fun k a=>[(0, .ptr d lb 0),(1,i64 day),(7,i64 a),(10, .sl .no 1 (es cInt l)),(11,i64 l.length),(12,i64 k)]) (fun _ _=>[]::S)
  (fun a=>(.exit 0,[(0, .ptr d lb 0),(1,i64 day),(7,i64 a),(10, .sl .no 1 (es cInt l)),(11,i64 l.length),(12,i64 l.length),(13, .bool false)],[]::S))
  (by simp) ?_ (by simp) ?_ 2000 trivial [(0, .ptr d lb 0),(1,i64 day),(7,i64 2000),(10, .sl .no 1 (es cInt l)),(11,i64 l.length),(12,i64 0)] ([]::S) (by simp[hd']) (by simp)
 ·change Run T b83l0 _ _=_ at key
  rw[den_fn t83 _ _ _ rfl]
  simp only[b83]
  simp (disch:=first|omega|assumption|decide +kernel|(simp;done)|(simp;omega)|fail) [key,leastL]
 ·intro k a hk _
  have h1:=hf l[k] (List.getElem_mem hk)
  simp (disch:=first|omega|assumption|decide +kernel|(simp;done)|(simp;omega)|fail) [hk,hd',h1,wk k (by omega)]
 ·intro a _
  simp[hd']
def dayLo(n:Season)(day:Nat):Int:=(n.days.getD day default).lo
def worthS(n:Season):Nat→Int→Int
 |0,_=>0
 |r+1,sky=>
   let m:=leastL (worthS n r) (n.follows.getD sky.toNat [])
   if mayS n (n.days.length-(r+1)) sky.toNat=true then max m (dayLo n (n.days.length-(r+1)))else m
theorem rising_mem {l:List Int} {lo hi:Int}(h:rising l lo hi=true): ∀x:Int,x∈l→lo≤x∧x≤hi:=by
 intro x hx
 obtain⟨k,hk,rfl⟩:=List.getElem_of_mem hx
 have:=allB_iff.1 h k (List.mem_range.2 hk)
 simp only[risingAt,Bool.and_eq_true,List.getD,List.getElem?_eq_getElem hk,Option.getD_some]at this
 exact within_iff.1 this.1
theorem follows_ok {n:Season}(h:seasonOk n=true) {k:Nat}(hk:k<n.skies.length): ∃hk2:k<n.follows.length,n.follows[k]≠[]∧ ∀x:Int,x∈n.follows[k]→0≤x∧x<(n.skies.length:Int):=by
 obtain⟨_,_,_,_,h5,_,_,h8,_⟩:=seasonOk_iff.1 h
 have h9:=allB_iff.1 h8 k (List.mem_range.2 hk)
 have hk2:k<n.follows.length:=by omega
 refine⟨hk2,?_⟩
 simp only[skyAt,List.getElem?_eq_getElem hk,List.getElem?_eq_getElem hk2,areSkies,Bool.and_eq_true,decide_eq_true_eq]at h9
 refine⟨fun e=> ?_,fun x hx=> ?_⟩
 ·rw[e]at h9;simp at h9
 ·have:=rising_mem h9.2.2 x hx;omega
theorem first_ok {n:Season}(h:seasonOk n=true):n.first≠[]∧ ∀x:Int,x∈n.first→0≤x∧x<(n.skies.length:Int):=by
 obtain⟨_,_,_,_,_,h6,_⟩:=seasonOk_iff.1 h
 simp only[areSkies,Bool.and_eq_true,decide_eq_true_eq]at h6
 refine⟨fun e=> ?_,fun x hx=> ?_⟩
 ·rw[e]at h6;simp at h6
 ·have:=rising_mem h6.2 x hx;omega
theorem e_worth13(n:Season)(hok:seasonOk n=true)(hlen: ∀l∈n.follows,l.length<4611686018427387904)(d lb:Nat): ∀(r day:Nat) (sky:Int),day+r=n.days.length→0≤sky→sky<(n.skies.length:Int)→ ∀(S:Stk) (_:d<S.length) (_:sget S d lb=some (.cell (seasonCell n))) (lab),
 den T 99 [.ptr d lb 0,i64 day,i64 sky] lab S=some (i64 (worthS n r sky),S):=by
 obtain⟨_,_,q3,q4,q5,_,q7,_,_⟩:=seasonOk_iff.1 hok
 intro r
 induction r with
 |zero=>
   intro day sky hday h0 h1 S hd h lab
   have hd': ¬d=S.length:=by omega
   have hdd:(day:Int)=n.days.length:=by omega
   rw[den_fn t99 _ _ _ rfl]
   simp only[b99]
   simp (disch:=first|omega|assumption|decide +kernel|(simp;done)|(simp;omega)|fail) [h,hd',hdd,seasonCell,worthS]
 |succ r ih=>
   intro day sky hday h0 h1 S hd h lab
   have hd': ¬d=S.length:=by omega
   have hdd: ¬(day:Int)=n.days.length:=by omega
   have hk:sky.toNat<n.skies.length:=by omega
   obtain⟨hk2,_,hf⟩:=follows_ok hok hk
   have hS1: ∀x:Ab.Loc,sget (x::S) d lb=some (.cell (seasonCell n)):=fun x=>by rw[sget_cons,if_neg hd',h]
   have hS2: ∀x y:Ab.Loc,sget (x::y::S) d lb=some (.cell (seasonCell n)):=fun x y=>by rw[sget_cons,if_neg (by simp;omega),hS1]
   have hl:=fun lab=>e_least n (day+1) (worthS n r) n.follows[sky.toNat] (hlen _ (List.getElem_mem hk2)) d lb ([]::S) (by simp;omega) (fun x hx lab=>ih (day+1) x (by omega) (hf x hx).1 (hf x hx).2 _ (by simp;omega) (hS2 _ _) lab) lab
   have hm:=fun lab=>e_may n day sky.toNat (by omega) (by omega) d lb ([]::S) (by simp;omega) (hS1 _) lab
   have hsk:((sky.toNat:Nat):Int)=sky:=by omega
   simp only[hsk]at hm
   have hc:((day+1:Nat):Int)=(day:Int)+1:=rfl
   rw[hc]at hl
   have hdk:day<n.days.length:=by omega
   have hrem:n.days.length-(r+1)=day:=by omega
   have hlo:dayLo n day=n.days[day].lo:=by simp[dayLo,hdk]
   have hfo:n.follows.getD sky.toNat []=n.follows[sky.toNat]:=by simp[List.getD,hk2]
   have hwv:worthS n (r+1) sky=if mayS n day sky.toNat=true then max (leastL (worthS n r) n.follows[sky.toNat]) n.days[day].lo else leastL (worthS n r) n.follows[sky.toNat]:=by
    simp only[worthS,hrem,hlo,hfo]
   rw[hwv]
   rw[den_fn t99 _ _ _ rfl]
   simp only[b99]
   cases c0:mayS n day sky.toNat
   ·simp (disch:=first|omega|assumption|decide +kernel|(simp;done)|(simp;omega)|fail) [h,hd',hdd,seasonCell,hk2,h0,hl,hm,c0,wk day (by omega)]
   ·simp (disch:=first|omega|assumption|decide +kernel|(simp;done)|(simp;omega)|fail) [h,hd',hdd,seasonCell,hk2,h0,hdk,hl,hm,c0,wk day (by omega)]
end Go.Proofs.YtoedpegjoccnlaaGreat.A

/-
  skies: the exported functions but Off, Regret.
-/
namespace Go.Proofs.YtoedpegjoccnlaaGreat.A
open Go.Ab
structure Short(n:Season):Prop where
 grips:n.net.grips.length<8796093022208
 anch:n.net.anch.length<8796093022208
 walls:n.net.walls.length<3518437208884
 skies:n.skies.length<4611686018427387904
 follows:n.follows.length<4611686018427387904
 first:n.first.length<4611686018427387904
 days:n.days.length<4611686018427387904
 each: ∀l∈n.follows,l.length<4611686018427387904
set_option maxHeartbeats 4000000 in
theorem e_open13(n0:Int)(n1:Int)(n2:Int)(n3:Int)(n4:List Sp)(n5:List Anc)(n6:List Wal)(n7:Int)(n8:Int)(n9:List Sp)(n10:List Boat)(n11:List Sky)(n12:List (List Int))(n13:List Int)(n14:List Sp)(hs:Short (⟨⟨⟨n0,n1⟩,⟨n2,n3⟩,n4,n5,n6⟩,⟨⟨n7,n8⟩,n9,n10⟩,n11,n12,n13,n14⟩:Season))(hok:seasonOk (⟨⟨⟨n0,n1⟩,⟨n2,n3⟩,n4,n5,n6⟩,⟨⟨n7,n8⟩,n9,n10⟩,n11,n12,n13,n14⟩:Season)=true)(lab)(loc:Ab.Loc)(s:Stk)(k0:loc.get lab=none):
 den T 60 [.agg [i64 n0,i64 n1,i64 n2,i64 n3, .sl .no 2 (es cSp n4), .sl .no 2 (es cAnc n5), .sl .no 5 (es cWal n6),i64 n7,i64 n8, .sl .no 2 (es cSp n9), .sl .no 2 (es cBoat n10), .sl .no 4 (es cSky n11), .sl .no 1 (es cInts n12), .sl .no 1 (es cInt n13), .sl .no 2 (es cSp n14)], .bool true] lab (loc::s)=some (.tup [.ptr s.length lab 0,i64 0],loc.put lab (.cell (seasonCell (⟨⟨⟨n0,n1⟩,⟨n2,n3⟩,n4,n5,n6⟩,⟨⟨n7,n8⟩,n9,n10⟩,n11,n12,n13,n14⟩:Season)))::s):=by
 obtain⟨q1,q2,q3,q4,q5,q6,q7,q8,q9⟩:=seasonOk_iff.1 hok
 obtain⟨s1,s2,s3,s4,s5,s6,s7,s8⟩:=hs
 simp only at q4 q7 s1 s2 s3 s4 s5 s6 s7 s8
 have g0:=e_open13_l0 n0 n1 n2 n3 n4 n5 n6 n7 n8 n9 n10 n11 n12 n13 n14 (loc::s) (by omega) (by omega) (by omega) q4
 have g1:=e_open13_l1 n0 n1 n2 n3 n4 n5 n6 n7 n8 n9 n10 n11 n12 n13 n14 (calmS (⟨⟨⟨n0,n1⟩,⟨n2,n3⟩,n4,n5,n6⟩,⟨⟨n7,n8⟩,n9,n10⟩,n11,n12,n13,n14⟩:Season) 0) (calmS (⟨⟨⟨n0,n1⟩,⟨n2,n3⟩,n4,n5,n6⟩,⟨⟨n7,n8⟩,n9,n10⟩,n11,n12,n13,n14⟩:Season) 1) (calmS (⟨⟨⟨n0,n1⟩,⟨n2,n3⟩,n4,n5,n6⟩,⟨⟨n7,n8⟩,n9,n10⟩,n11,n12,n13,n14⟩:Season) 2) (calmS (⟨⟨⟨n0,n1⟩,⟨n2,n3⟩,n4,n5,n6⟩,⟨⟨n7,n8⟩,n9,n10⟩,n11,n12,n13,n14⟩:Season) 3) (loc::s) q7
 simp only[List.length_cons]at g0 g1
 have hc:=fun lab s=>e_Check13p n0 n1 n2 n3 n4 n5 n6 n7 n8 n9 n10 n11 n12 n13 n14 (by omega) (by omega) (by omega) s4 s6 s7 s8 lab s
 rw[den_fn t60 _ _ _ rfl]
 simp only[b60]
 simp (disch:=first|omega|assumption|decide +kernel|(simp;done)|(simp;omega)|fail) [hc,hok,g0,g1,k0,seasonCell]
theorem e_open13_bad(n0:Int)(n1:Int)(n2:Int)(n3:Int)(n4:List Sp)(n5:List Anc)(n6:List Wal)(n7:Int)(n8:Int)(n9:List Sp)(n10:List Boat)(n11:List Sky)(n12:List (List Int))(n13:List Int)(n14:List Sp)(hs:Short (⟨⟨⟨n0,n1⟩,⟨n2,n3⟩,n4,n5,n6⟩,⟨⟨n7,n8⟩,n9,n10⟩,n11,n12,n13,n14⟩:Season))(hok:seasonOk (⟨⟨⟨n0,n1⟩,⟨n2,n3⟩,n4,n5,n6⟩,⟨⟨n7,n8⟩,n9,n10⟩,n11,n12,n13,n14⟩:Season)=false)(b:Bool)(lab)(loc:Ab.Loc)(s:Stk):
 den T 60 [.agg [i64 n0,i64 n1,i64 n2,i64 n3, .sl .no 2 (es cSp n4), .sl .no 2 (es cAnc n5), .sl .no 5 (es cWal n6),i64 n7,i64 n8, .sl .no 2 (es cSp n9), .sl .no 2 (es cBoat n10), .sl .no 4 (es cSky n11), .sl .no 1 (es cInts n12), .sl .no 1 (es cInt n13), .sl .no 2 (es cSp n14)], .bool b] lab (loc::s)=some (.tup [.nilp,i64 130],loc::s):=by
 obtain⟨s1,s2,s3,s4,s5,s6,s7,s8⟩:=hs
 simp only at s1 s2 s3 s4 s5 s6 s7 s8
 have hc:=fun lab s=>e_Check13p n0 n1 n2 n3 n4 n5 n6 n7 n8 n9 n10 n11 n12 n13 n14 (by omega) (by omega) (by omega) s4 s6 s7 s8 lab s
 rw[den_fn t60 _ _ _ rfl]
 simp only[b60]
 simp (disch:=first|omega|assumption|decide +kernel|(simp;done)|(simp;omega)|fail) [hc,hok]
@[simp] theorem seasonCell_map(d ls)(n:Season):V.mapAll (dropR d ls) (seasonCell n)=seasonCell n:=by simp[seasonCell]
@[simp] theorem seasonCell_pure(n:Season):V.pureAll (seasonCell n)=true:=by simp[seasonCell]
end Go.Proofs.YtoedpegjoccnlaaGreat.A

/-
  skies: Calm, Holds, May, Lift, Best, brings.
-/
namespace Go.Proofs.YtoedpegjoccnlaaGreat.A
open Go.Ab
def bestS(n:Season):Int:=leastL (worthS n n.days.length) n.first
def bestR(n:Season):Int×Int:=if seasonOk n=true then(bestS n,0)else(0,130)
set_option maxHeartbeats 1000000 in
theorem e_Best(n0:Int)(n1:Int)(n2:Int)(n3:Int)(n4:List Sp)(n5:List Anc)(n6:List Wal)(n7:Int)(n8:Int)(n9:List Sp)(n10:List Boat)(n11:List Sky)(n12:List (List Int))(n13:List Int)(n14:List Sp)(hs:Short (⟨⟨⟨n0,n1⟩,⟨n2,n3⟩,n4,n5,n6⟩,⟨⟨n7,n8⟩,n9,n10⟩,n11,n12,n13,n14⟩:Season))(lab s):den T 56 [.agg [i64 n0,i64 n1,i64 n2,i64 n3, .sl .no 2 (es cSp n4), .sl .no 2 (es cAnc n5), .sl .no 5 (es cWal n6),i64 n7,i64 n8, .sl .no 2 (es cSp n9), .sl .no 2 (es cBoat n10), .sl .no 4 (es cSky n11), .sl .no 1 (es cInts n12), .sl .no 1 (es cInt n13), .sl .no 2 (es cSp n14)]] lab s=some (.tup [i64 (bestR (⟨⟨⟨n0,n1⟩,⟨n2,n3⟩,n4,n5,n6⟩,⟨⟨n7,n8⟩,n9,n10⟩,n11,n12,n13,n14⟩:Season)).1,i64 (bestR (⟨⟨⟨n0,n1⟩,⟨n2,n3⟩,n4,n5,n6⟩,⟨⟨n7,n8⟩,n9,n10⟩,n11,n12,n13,n14⟩:Season)).2],s):=by
 rw[den_fn t56 _ _ _ rfl]
 simp only[b56]
 cases c0:seasonOk (⟨⟨⟨n0,n1⟩,⟨n2,n3⟩,n4,n5,n6⟩,⟨⟨n7,n8⟩,n9,n10⟩,n11,n12,n13,n14⟩:Season)
 ·have ho:=fun b lab loc s=>e_open13_bad n0 n1 n2 n3 n4 n5 n6 n7 n8 n9 n10 n11 n12 n13 n14 hs c0 b lab loc s
  simp (disch:=first|omega|assumption|decide +kernel|(simp;done)|(simp;omega)|fail) [c0,ho,bestR]
 ·have hp:=fun lab loc s k0=>e_open13 n0 n1 n2 n3 n4 n5 n6 n7 n8 n9 n10 n11 n12 n13 n14 hs c0 lab loc s k0
  have hf:=(first_ok c0).2
  have hw:=fun lab=>e_least (⟨⟨⟨n0,n1⟩,⟨n2,n3⟩,n4,n5,n6⟩,⟨⟨n7,n8⟩,n9,n10⟩,n11,n12,n13,n14⟩:Season) 0 (worthS (⟨⟨⟨n0,n1⟩,⟨n2,n3⟩,n4,n5,n6⟩,⟨⟨n7,n8⟩,n9,n10⟩,n11,n12,n13,n14⟩:Season) n14.length) n13 hs.first s.length 128 ([(16, .cell [i64 n0,i64 n1,i64 n2,i64 n3, .sl .no 2 (es cSp n4), .sl .no 2 (es cAnc n5), .sl .no 5 (es cWal n6),i64 n7,i64 n8, .sl .no 2 (es cSp n9), .sl .no 2 (es cBoat n10), .sl .no 4 (es cSky n11), .sl .no 1 (es cInts n12), .sl .no 1 (es cInt n13), .sl .no 2 (es cSp n14)]),(128, .cell (seasonCell (⟨⟨⟨n0,n1⟩,⟨n2,n3⟩,n4,n5,n6⟩,⟨⟨n7,n8⟩,n9,n10⟩,n11,n12,n13,n14⟩:Season)))]::s) (by simp)
   (fun x hx lab=>e_worth13 (⟨⟨⟨n0,n1⟩,⟨n2,n3⟩,n4,n5,n6⟩,⟨⟨n7,n8⟩,n9,n10⟩,n11,n12,n13,n14⟩:Season) c0 hs.each s.length 128 n14.length 0 x (by simp only;omega) (hf x hx).1 (hf x hx).2 ([]::[(16, .cell [i64 n0,i64 n1,i64 n2,i64 n3, .sl .no 2 (es cSp n4), .sl .no 2 (es cAnc n5), .sl .no 5 (es cWal n6),i64 n7,i64 n8, .sl .no 2 (es cSp n9), .sl .no 2 (es cBoat n10), .sl .no 4 (es cSky n11), .sl .no 1 (es cInts n12), .sl .no 1 (es cInt n13), .sl .no 2 (es cSp n14)]),(128, .cell (seasonCell (⟨⟨⟨n0,n1⟩,⟨n2,n3⟩,n4,n5,n6⟩,⟨⟨n7,n8⟩,n9,n10⟩,n11,n12,n13,n14⟩:Season)))]::s) (by simp;omega) (by rw[sget_cons,if_neg (by simp)];exact(sget_top _ _ _).trans rfl) lab) lab
  have hr:bestR (⟨⟨⟨n0,n1⟩,⟨n2,n3⟩,n4,n5,n6⟩,⟨⟨n7,n8⟩,n9,n10⟩,n11,n12,n13,n14⟩:Season)=(leastL (worthS (⟨⟨⟨n0,n1⟩,⟨n2,n3⟩,n4,n5,n6⟩,⟨⟨n7,n8⟩,n9,n10⟩,n11,n12,n13,n14⟩:Season) n14.length) n13,0):=by simp[bestR,bestS,c0]
  rw[hr]
  have hse:(seasonCell (⟨⟨⟨n0,n1⟩,⟨n2,n3⟩,n4,n5,n6⟩,⟨⟨n7,n8⟩,n9,n10⟩,n11,n12,n13,n14⟩:Season))[13]? =some (.sl .no 1 (es cInt n13)):=rfl
  have hsl:(seasonCell (⟨⟨⟨n0,n1⟩,⟨n2,n3⟩,n4,n5,n6⟩,⟨⟨n7,n8⟩,n9,n10⟩,n11,n12,n13,n14⟩:Season)).length=24:=rfl
  simp only[show((0:Nat):Int)=0 from rfl]at hw
  simp (maxSteps:=1000000) (disch:=first|omega|assumption|decide +kernel|(simp;done)|(simp;omega)|fail) [orSlow_none,c0,hp,hw,hse,hsl]
end Go.Proofs.YtoedpegjoccnlaaGreat.A

/-
  skies: courses.
-/
namespace Go.Proofs.YtoedpegjoccnlaaGreat.A
open Go.Ab
def coursesFrom(n:Season):Nat→List Int→List Int→List (List Int)
 |0,c,_=>[c]
 |r+1,c,nx=>nx.flatMap fun(x:Int)=>coursesFrom n r (c ++[x]) (n.follows.getD x.toNat [])
structure Yield13(n:Season)(σ:Type)(P:σ→Prop)(d l ds ls D:Nat)(St:σ→Stk)(Y:σ→List Int→σ×Bool):Prop where
 len: ∀a,(St a).length=D
 lt:ds<D
 ltd:d<D
 sea: ∀a,sget (St a) ds ls=some (.cell (seasonCell n))
 yield: ∀(fr:Stk) a c lab,P a→(∀x:Int,x∈c→0≤x∧x<(n.skies.length:Int))→c.length=n.days.length→denV T (.yld d l) [.sl .no 1 (es cInt c)] lab (fr ++St a)=some (.bool (Y a c).2,fr ++St (Y a c).1)
 keep: ∀a c,P a→(Y a c).2=true→P (Y a c).1
def coursesFrame(ds ls d l D:Nat):Ab.Loc:=[(32, .cell [.ptr ds ls 0]),(48, .cell [.yld d l]),(64, .cell [.fn 87 [] [.ptr D 32 0, .ptr D 48 0, .ptr D 64 0]])]
theorem foldB_inv {α σ:Type} {P:σ→Prop} {Y:σ→α→σ×Bool}(h: ∀a c,P a→(Y a c).2=true→P (Y a c).1): ∀(l:List α) (a:σ),P a→(foldB Y l a).2=true→P (foldB Y l a).1
 |[],_,ha,_=>ha
 |x::l,a,ha,hb=>by
   simp only[foldB]at hb⊢
   split at hb
   ·rename_i h1;rw[if_pos h1];exact foldB_inv h l _ (h _ _ ha h1) hb
   ·rename_i h1;exact absurd hb h1
set_option maxHeartbeats 4000000 in
theorem e_from13(n:Season)(hok:seasonOk n=true)(hlen: ∀l∈n.follows,l.length<4611686018427387904) {σ:Type} {P:σ→Prop} {d l ds ls D:Nat} {St:σ→Stk} {Y:σ→List Int→σ×Bool}(y:Yield13 n σ P d l ds ls D St Y):
 ∀(r:Nat) (c nx:List Int),c.length+r=n.days.length→nx.length<4611686018427387904→(∀x:Int,x∈c→0≤x∧x<(n.skies.length:Int))→(∀x:Int,x∈nx→0≤x∧x<(n.skies.length:Int))→ ∀(fr:Stk) (a:σ) (_:P a) (lab:Nat),
  den T 87 [.sl .no 1 (es cInt c), .sl .no 1 (es cInt nx), .ptr D 32 0, .ptr D 48 0, .ptr D 64 0] lab (fr ++coursesFrame ds ls d l D::St a)=
   some (.bool (foldB Y (coursesFrom n r c nx) a).2,fr ++coursesFrame ds ls d l D::St (foldB Y (coursesFrom n r c nx) a).1):=by
 obtain⟨_,_,q3,q4,q5,_,q7,_,_⟩:=seasonOk_iff.1 hok
 have facts: ∀(fr:Stk) (a:σ),sget (fr ++coursesFrame ds ls d l D::St a) D 32=some (.cell [.ptr ds ls 0])∧sget (fr ++coursesFrame ds ls d l D::St a) D 48=some (.cell [.yld d l])∧
  sget (fr ++coursesFrame ds ls d l D::St a) D 64=some (.cell [.fn 87 [] [.ptr D 32 0, .ptr D 48 0, .ptr D 64 0]])∧sget (fr ++coursesFrame ds ls d l D::St a) ds ls=some (.cell (seasonCell n))∧
  (¬D=(fr ++coursesFrame ds ls d l D::St a).length)∧(¬ds=(fr ++coursesFrame ds ls d l D::St a).length)∧(¬d=(fr ++coursesFrame ds ls d l D::St a).length):=by
  intro fr a
  have hl:=y.len a
  have hlt:=y.lt
  have hltd:=y.ltd
  have g: ∀l',sget (fr ++coursesFrame ds ls d l D::St a) D l'=(coursesFrame ds ls d l D).get l':=fun l'=>by
   rw[sget_append _ _ _ _ (by simp only[List.length_cons];omega),←hl,sget_top]
  refine⟨by rw[g];rfl,by rw[g];rfl,by rw[g];rfl,?_,?_,?_,?_⟩
  ·rw[show fr ++coursesFrame ds ls d l D::St a=(fr ++[coursesFrame ds ls d l D]) ++St a by simp,sget_append _ _ _ _ (by omega),y.sea]
  all_goals simp only[List.length_append,List.length_cons];omega
 intro r
 induction r with
 |zero=>
   intro c nx hr hnx hc hx fr a ha lab
   obtain⟨h32,h48,h64,hsea,hD,hds,hd⟩:=facts fr a
   have hy:=y.yield ([]::(fr ++[coursesFrame ds ls d l D])) a c
   simp only[List.cons_append,List.append_assoc,List.nil_append]at hy
   have hy2:=fun lab=>hy lab ha hc (by omega)
   have e:foldB Y (coursesFrom n 0 c nx) a=Y a c:=by
    simp only[coursesFrom,foldB]
    split
    ·rename_i h;exact Prod.ext rfl h.symm
    ·rfl
   rw[e]
   generalize fr ++coursesFrame ds ls d l D::St a=X at*
   generalize fr ++coursesFrame ds ls d l D::St (Y a c).1=X' at*
   have hcl:(c.length:Int)=n.days.length:=by omega
   rw[den_fn t87 _ _ _ rfl]
   simp only[b87]
   simp (disch:=first|omega|assumption|decide +kernel|(simp;done)|(simp;omega)|fail) [h32,h48,hsea,hD,hds,hd,hy2,seasonCell,hcl]
 |succ r ih=>
   intro c nx hr hnx hc hx fr a ha lab
   obtain⟨X,hX⟩: ∃X:σ→Stk,∀a,fr ++coursesFrame ds ls d l D::St a=X a:=⟨_,fun _=>rfl⟩
   have fx: ∀a,sget (X a) D 32=some (.cell [.ptr ds ls 0])∧sget (X a) D 48=some (.cell [.yld d l])∧sget (X a) D 64=some (.cell [.fn 87 [] [.ptr D 32 0, .ptr D 48 0, .ptr D 64 0]])∧sget (X a) ds ls=some (.cell (seasonCell n))∧(¬D=(X a).length)∧(¬ds=(X a).length)∧(¬d=(X a).length):=fun a=>by
    have:=facts fr a;rw[hX]at this;exact this
   rw[hX,hX]
   have hne: ¬(c.length:Int)=n.days.length:=by omega
   have key:=fun a0 (ha0:P a0)=>loop_list_e (T:=T) (live:=[0,2,4,22,23,24]) (keep:=[336]) (b:=d87l0) nx (fun _ (a:σ)=>P a)
    (fun k _=>[(0, .sl .no 1 (es cInt c)),(2, .ptr D 32 0),(4, .ptr D 64 0),(22, .sl .no 1 (es cInt nx)),(23,i64 nx.length),(24,i64 k)]) (fun _ a=>[]::X a)
    (fun a (x:Int)=>foldB Y (coursesFrom n r (c ++[x]) (n.follows.getD x.toNat [])) a)
    (fun(g:Ab.Loc) a=>(.ret,[(7, .bool false)],g::X a)) (fun a=>(.exit 0,[(0, .sl .no 1 (es cInt c)),(2, .ptr D 32 0),(4, .ptr D 64 0),(22, .sl .no 1 (es cInt nx)),(23,i64 nx.length),(24,i64 nx.length),(25, .bool false)],[]::X a))
    (by simp) (by simp) ?_ ?_ a0 ha0 [(0, .sl .no 1 (es cInt c)),(2, .ptr D 32 0),(4, .ptr D 64 0),(22, .sl .no 1 (es cInt nx)),(23,i64 nx.length),(24,i64 0)] ([]::X a0) (by simp[(fx a0).2.2.2.2.1]) (by simp)
   ·obtain⟨g,hg⟩:=key a ha
    change Run T b87l0 _ _=_ at hg
    have e:foldB Y (coursesFrom n (r+1) c nx) a=foldB (fun a (x:Int)=>foldB Y (coursesFrom n r (c ++[x]) (n.follows.getD x.toNat [])) a) nx a:=by
     rw[coursesFrom,foldB_flatMap]
    rw[e]
    generalize foldB (fun a (x:Int)=>foldB Y (coursesFrom n r (c ++[x]) (n.follows.getD x.toNat [])) a) nx a=q at hg
    obtain⟨a',bb⟩:=q
    obtain⟨h32,h48,h64,hsea,hD,hds,hd⟩:=fx a
    rw[den_fn t87 _ _ _ rfl]
    simp only[b87]
    cases bb
    ·simp (disch:=first|omega|assumption|decide +kernel|(simp;done)|(simp;omega)|fail) [h32,h48,h64,hsea,hD,hds,hd,seasonCell,hne,hg]
    ·simp (disch:=first|omega|assumption|decide +kernel|(simp;done)|(simp;omega)|fail) [h32,h48,h64,hsea,hD,hds,hd,seasonCell,hne,hg]
   ·intro k a hk ha
    obtain⟨h32,h48,h64,hsea,hD,hds,hd⟩:=fx a
    have hcl:c.length<10:=by omega
    obtain⟨hx0,hx1⟩:=hx nx[k] (List.getElem_mem hk)
    obtain⟨hk2,_,hf⟩:=follows_ok hok (k:=nx[k].toNat) (by omega)
    have hfo:n.follows.getD nx[k].toNat []=n.follows[nx[k].toNat]:=by simp[List.getD,hk2]
    rw[hfo]
    have h1:=fun lab=>ih (c ++[nx[k]]) n.follows[nx[k].toNat] (by simp;omega) (hlen _ (List.getElem_mem hk2)) (fun x hx=>by
     rcases List.mem_append.1 hx with h|h
     ·exact hc x h
     ·simp only[List.mem_singleton]at h;subst h;exact⟨hx0,hx1⟩) hf ([(592, .tok (c.length+1))]::fr) a ha lab
    have hkp:=foldB_inv y.keep (coursesFrom n r (c ++[nx[k]]) n.follows[nx[k].toNat]) a ha
    simp only[List.cons_append]at h1
    rw[hX,hX]at h1
    generalize foldB Y (coursesFrom n r (c ++[nx[k]]) n.follows[nx[k].toNat]) a=q at h1 hkp
    obtain⟨a',bb⟩:=q
    refine⟨fun hb=>⟨?_,hkp hb⟩,fun hb=>⟨[(592, .tok (c.length+1))],?_⟩⟩
    ·simp only at hb
     subst hb
     simp (maxSteps:=1000000) (disch:=first|omega|assumption|decide +kernel|(simp;done)|(simp;omega)|fail) [run_drawnK,h32,hsea,seasonCell,hx0,hk2,hD,hds,h64,hk,appD_full1,denV_fn,h1,(fx a').2.2.2.2.1,wk k (by omega)]
    ·simp only at hb
     subst hb
     simp (maxSteps:=1000000) (disch:=first|omega|assumption|decide +kernel|(simp;done)|(simp;omega)|fail) [run_drawnK,h32,hsea,seasonCell,hx0,hk2,hD,hds,h64,hk,appD_full1,denV_fn,h1,(fx a').2.2.2.2.1]
   ·intro a _
    obtain⟨h32,h48,h64,hsea,hD,hds,hd⟩:=fx a
    simp
theorem e_courses13(n:Season)(hok:seasonOk n=true)(hlen: ∀l∈n.follows,l.length<4611686018427387904)(hfl:n.first.length<4611686018427387904) {σ:Type} {P:σ→Prop} {d l ds ls D:Nat} {St:σ→Stk} {Y:σ→List Int→σ×Bool}(y:Yield13 n σ P d l ds ls D St Y)(a:σ)(ha:P a)(lab):
 den T 61 [.ptr ds ls 0, .yld d l] lab (St a)=some (.tup [],St (foldB Y (coursesFrom n n.days.length [] n.first) a).1):=by
 have h:=fun lab=>e_from13 n hok hlen y n.days.length [] n.first (by simp) hfl (by simp) (first_ok hok).2 [] a ha lab
 have hl:=y.len a
 have hds: ¬ds=(St a).length:=by have:=y.lt;omega
 have hd: ¬d=(St a).length:=by have:=y.ltd;omega
 have hsea:=y.sea a
 simp only[es_nil,List.nil_append,←hl,coursesFrame]at h
 rw[den_fn t61 _ _ _ rfl]
 simp only[b61]
 simp (disch:=first|omega|assumption|decide +kernel|(simp;done)|(simp;omega)|fail) [denV_fn,h,hds,hd,hsea,seasonCell]
end Go.Proofs.YtoedpegjoccnlaaGreat.A

/-
  skies: Off, Regret.
-/
namespace Go.Proofs.YtoedpegjoccnlaaGreat.A
open Go.Ab
def firstMay(n:Season):Nat→List Int→Option Nat
 |_,[]=>none
 |k,x::c=>if mayS n k x.toNat=true then some k else firstMay n (k+1) c
def season0(n:Season):List V:=[i64 n.net.wind.lo,i64 n.net.wind.hi,i64 n.net.cur.lo,i64 n.net.cur.hi, .sl .no 2 (es cSp n.net.grips), .sl .no 2 (es cAnc n.net.anch), .sl .no 5 (es cWal n.net.walls),i64 n.sea.weight.lo,i64 n.sea.weight.hi, .sl .no 2 (es cSp n.sea.places), .sl .no 2 (es cBoat n.sea.boats), .sl .no 4 (es cSky n.skies), .sl .no 1 (es cInts n.follows), .sl .no 1 (es cInt n.first), .sl .no 2 (es cSp n.days)]
def offEnv(d:Nat):Env:=[(2, .ptr d 32 0),(3, .ptr d 48 0),(4, .ptr d 64 0),(6, .ptr d 96 0),(24, .fn 61 [.ptr d 192 0] [])]
def offF(n:Season)(d:Nat)(x:LoopState)(p:Option Ex)(a:(Int×Int)×Bool):Ab.Loc:=[(16, .cell (season0 n)),(32, .cell [i64 0,i64 0]),(48, .cell [i64 (if a.2 then 3 else 0)]),(192, .cell (seasonCell n)),(64, .cell [.ptr d 192 0]),(96, .cell [i64 a.1.1,i64 a.1.2]),(7687, .loop [25] b30l1 b30l2 (offEnv d) x p)]
def offY(n:Season)(a:(Int×Int)×Bool)(c:List Int):((Int×Int)×Bool)×Bool:=match firstMay n 0 c with
 |some k=>(((min a.1.1 k,max a.1.2 k),a.2),true)
 |none=>((a.1,true),false)
theorem off_body(n:Season)(hok:seasonOk n=true)(c:List Int)(hc: ∀x:Int,x∈c→0≤x∧x<(n.skies.length:Int))(hcl:c.length=n.days.length)(d:Nat)(X:(Int×Int)×Bool→Stk)(hd: ∀a,d<(X a).length)
 (h64: ∀a,sget (X a) d 64=some (.cell [.ptr d 192 0])) (hsea: ∀a,sget (X a) d 192=some (.cell (seasonCell n))) (h96: ∀a,sget (X a) d 96=some (.cell [i64 a.1.1,i64 a.1.2]))
 (h32: ∀a,sget (X a) d 32=some (.cell [i64 0,i64 0])) (h48: ∀a,sget (X a) d 48=some (.cell [i64 (if a.2 then 3 else 0)]))
 (p96: ∀a lo hi,sput (X a) d 96 (.cell [i64 lo,i64 hi])=X ((lo,hi),a.2)) (p32: ∀a,sput (X a) d 32 (.cell [i64 0,i64 0])=X a) (p48: ∀a,sput (X a) d 48 (.cell [i64 3])=X (a.1,true)) (a):
 ∃e,Run T b30l2 [(2, .ptr d 32 0),(3, .ptr d 48 0),(4, .ptr d 64 0),(6, .ptr d 96 0),(7, .sl .no 1 (es cInt c))] ([]::X a)=some (if (offY n a c).2=true then .normal else .ret,e,[]::X (offY n a c).1):=by
 obtain⟨_,_,q3,q4,q5,_,q7,_,_⟩:=seasonOk_iff.1 hok
 have hd': ∀a,¬d=(X a).length:=fun a=>by have:=hd a;omega
 have key:=loop_list (T:=T) (live:=[2,3,4,6,26,27,28]) (keep:=[16,32,48,64,96,192]) (b:=d30l0) c (fun k (j:Nat)=>j=k)
  (fun k _=>[(2, .ptr d 32 0),(3, .ptr d 48 0),(4, .ptr d 64 0),(6, .ptr d 96 0),(26, .sl .no 1 (es cInt c)),(27,i64 c.length),(28,i64 k)]) (fun _ _=>[]::X a)
  (fun j x=>if mayS n j x.toNat=true then .inr (.exit 1,[(2, .ptr d 32 0),(3, .ptr d 48 0),(6, .ptr d 96 0)],[]::X ((min a.1.1 j,max a.1.2 j),a.2))else .inl (j+1))
  (fun _=>(.exit 2,[(2, .ptr d 32 0),(3, .ptr d 48 0),(4, .ptr d 64 0),(6, .ptr d 96 0),(26, .sl .no 1 (es cInt c)),(27,i64 c.length),(28,i64 c.length),(29, .bool false)],[]::X a))
  ?_ (fun k j j' hk hj h=>by split at h<;>simp_all) (fun k j q hk hj h=>by split at h<;>simp_all;rw[←h];simp) ?_ (by simp) 0 rfl
  [(2, .ptr d 32 0),(3, .ptr d 48 0),(4, .ptr d 64 0),(6, .ptr d 96 0),(26, .sl .no 1 (es cInt c)),(27,i64 c.length),(28,i64 0)] ([]::X a) (by simp[hd' a]) (by simp)
 ·have e: ∀(l:List Int) (j:Nat),foldS (fun j (x:Int)=>if mayS n j x.toNat=true then(.inr (.exit 1,[(2, .ptr d 32 0),(3, .ptr d 48 0),(6, .ptr d 96 0)],[]::X ((min a.1.1 j,max a.1.2 j),a.2)):Nat⊕(Ex×Env×Stk))else .inl (j+1))
   (fun _=>(.exit 2,[(2, .ptr d 32 0),(3, .ptr d 48 0),(4, .ptr d 64 0),(6, .ptr d 96 0),(26, .sl .no 1 (es cInt c)),(27,i64 c.length),(28,i64 c.length),(29, .bool false)],[]::X a)) l j=
   match firstMay n j l with
   |some k=>(.exit 1,[(2, .ptr d 32 0),(3, .ptr d 48 0),(6, .ptr d 96 0)],[]::X ((min a.1.1 k,max a.1.2 k),a.2))
   |none=>(.exit 2,[(2, .ptr d 32 0),(3, .ptr d 48 0),(4, .ptr d 64 0),(6, .ptr d 96 0),(26, .sl .no 1 (es cInt c)),(27,i64 c.length),(28,i64 c.length),(29, .bool false)],[]::X a):=by
   intro l
   induction l with
   |nil=>intro j;rfl
   |cons x l ih=>
     intro j
     simp only[foldS,firstMay]
     by_cases h:mayS n j x.toNat=true
     ·simp only[h,if_true]
     ·simp only[h,if_false,ih];rfl
  rw[e]at key
  change Run T b30l0 _ _=_ at key
  simp only[b30l2]
  cases h:firstMay n 0 c with
  |some k=>
    simp only[h]at key
    have e1:offY n a c=(((min a.1.1 k,max a.1.2 k),a.2),true):=by simp only[offY,h]
    rw[e1]
    refine⟨[(2, .ptr d 32 0),(3, .ptr d 48 0),(6, .ptr d 96 0)],?_⟩
    simp (disch:=first|omega|assumption|decide +kernel|(simp;done)|(simp;omega)|fail) [hd',key]
  |none=>
    simp only[h]at key
    have e1:offY n a c=((a.1,true),false):=by simp only[offY,h]
    rw[e1]
    refine⟨[(2, .ptr d 32 0),(3, .ptr d 48 0)],?_⟩
    simp (disch:=first|omega|assumption|decide +kernel|(simp;done)|(simp;omega)|fail) [hd',key,h32,h48,p32,p48]
 ·intro k j hk hj
  subst hj
  obtain⟨h0,h1⟩:=hc c[j] (List.getElem_mem hk)
  have hsk:((c[j].toNat:Nat):Int)=c[j]:=by omega
  have hm:=fun lab=>e_may n j c[j].toNat (by omega) (by omega) d 192 ([]::X a) (by have:=hd a;simp;omega) (by rw[sget_cons,if_neg (hd' a),hsea a]) lab
  rw[hsk]at hm
  cases c0:mayS n j c[j].toNat
  ·simp (disch:=first|omega|assumption|decide +kernel|(simp;done)|(simp;omega)|fail) [hk,hd',h64,hm,c0,wk j (by omega)]
  ·simp (disch:=first|omega|assumption|decide +kernel|(simp;done)|(simp;omega)|fail) [hk,hd',h64,h96,p96,hm,c0]
 ·intro j hj
  simp[hd' a]
def offSt(n:Season)(S0:Stk)(a:(Int×Int)×Bool):Stk:=offF n S0.length (if a.2 then .done else .ready) (if a.2 then some .ret else none) a::S0
theorem off_yield(n:Season)(hok:seasonOk n=true)(S0:Stk):
 Yield13 n ((Int×Int)×Bool) (fun a=>a.2=false) S0.length 7687 S0.length 192 (S0.length+1) (offSt n S0) (offY n) where
 len:=fun a=>by simp[offSt]
 lt:=by omega
 ltd:=by omega
 sea:=fun a=>by rw[offSt,sget_top];rfl
 keep:=fun a c ha hb=>by
  simp only[offY]at hb⊢
  cases h:firstMay n 0 c<;>simp_all
 yield:=fun fr a c lab ha hc hcl=>by
  have top: ∀(x:LoopState) p a l',sget (fr ++offF n S0.length x p a::S0) S0.length l'=(offF n S0.length x p a).get l':=fun x p a l'=>by
   rw[sget_append _ _ _ _ (by simp),sget_top]
  have put: ∀(x:LoopState) p a l' en,sput (fr ++offF n S0.length x p a::S0) S0.length l' en=fr ++(offF n S0.length x p a).put l' en::S0:=fun x p a l' en=>by
   rw[sput_append _ _ _ _ _ (by simp),sput_top]
  have hlen: ∀(x:LoopState) p a,S0.length<(fr ++offF n S0.length x p a::S0).length:=fun x p a=>by simp;omega
  obtain⟨o,b⟩:=a
  simp only at ha
  subst ha
  obtain⟨e,hB⟩:=off_body n hok c hc hcl S0.length (fun a=>fr ++offF n S0.length .busy none a::S0) (fun a=>hlen _ _ _) (fun a=>by rw[top];rfl) (fun a=>by rw[top];rfl) (fun a=>by rw[top];rfl) (fun a=>by rw[top];rfl) (fun a=>by rw[top];rfl)
   (fun a lo hi=>by rw[put];rfl) (fun a=>by rw[put];rfl) (fun a=>by rw[put];rfl) (o,false)
  change denV T _ _ lab (fr ++offF n S0.length .ready none (o,false)::S0)=_
  refine(yld_run (ps:=[25]) (A:=b30l1) (B:=b30l2) (env:=offEnv S0.length) (ex:=if (offY n (o,false) c).2=true then .normal else .ret) (st:= .busy) (p:=none) (s3:=fr ++offF n S0.length .busy none (offY n (o,false) c).1::S0) (by rw[top];rfl) rfl
   (e1:=[(2, .ptr S0.length 32 0),(3, .ptr S0.length 48 0),(4, .ptr S0.length 64 0),(6, .ptr S0.length 96 0),(7, .sl .no 1 (es cInt c))]) (fr1:=[]) ?_ (hlen _ _ _) (e2:=e) (fr2:=[]) ?_ (by rw[top];rfl)).trans ?_
  ·simp[b30l1,offEnv,bindEnv]
  ·rw[put];exact hB
  ·rw[put]
   cases h:firstMay n 0 c with
   |some k=>
     have e1:offY n (o,false) c=(((min o.1 k,max o.2 k),false),true):=by simp only[offY,h]
     rw[e1];rfl
   |none=>
     have e1:offY n (o,false) c=((o,true),false):=by simp only[offY,h]
     rw[e1];rfl
def offQ(n:Season):((Int×Int)×Bool)×Bool:=foldB (offY n) (coursesFrom n n.days.length [] n.first) (((n.days.length:Int),-1),false)
def offR(n:Season):(Int×Int)×Int:=if seasonOk n=true then(if (offQ n).2=true then((offQ n).1.1,0)else((0,0),3))else((0,0),130)
theorem offQ_keep(n:Season): ∀(l:List (List Int)) (a:(Int×Int)×Bool),a.2=false→(foldB (offY n) l a).1.2= !(foldB (offY n) l a).2
 |[],a,h=>by simp[foldB,h]
 |c::l,a,h=>by
   cases h1:firstMay n 0 c with
   |some k=>
     have e:offY n a c=(((min a.1.1 k,max a.1.2 k),a.2),true):=by simp only[offY,h1]
     simp only[foldB,e,if_true]
     exact offQ_keep n l _ h
   |none=>
     have e:offY n a c=((a.1,true),false):=by simp only[offY,h1]
     simp[foldB,e]
set_option maxHeartbeats 1000000 in
theorem e_Off(n0:Int)(n1:Int)(n2:Int)(n3:Int)(n4:List Sp)(n5:List Anc)(n6:List Wal)(n7:Int)(n8:Int)(n9:List Sp)(n10:List Boat)(n11:List Sky)(n12:List (List Int))(n13:List Int)(n14:List Sp)(hs:Short (⟨⟨⟨n0,n1⟩,⟨n2,n3⟩,n4,n5,n6⟩,⟨⟨n7,n8⟩,n9,n10⟩,n11,n12,n13,n14⟩:Season))(lab s):den T 30 [.agg [i64 n0,i64 n1,i64 n2,i64 n3, .sl .no 2 (es cSp n4), .sl .no 2 (es cAnc n5), .sl .no 5 (es cWal n6),i64 n7,i64 n8, .sl .no 2 (es cSp n9), .sl .no 2 (es cBoat n10), .sl .no 4 (es cSky n11), .sl .no 1 (es cInts n12), .sl .no 1 (es cInt n13), .sl .no 2 (es cSp n14)]] lab s=some (.tup [.agg [i64 (offR (⟨⟨⟨n0,n1⟩,⟨n2,n3⟩,n4,n5,n6⟩,⟨⟨n7,n8⟩,n9,n10⟩,n11,n12,n13,n14⟩:Season)).1.1,i64 (offR (⟨⟨⟨n0,n1⟩,⟨n2,n3⟩,n4,n5,n6⟩,⟨⟨n7,n8⟩,n9,n10⟩,n11,n12,n13,n14⟩:Season)).1.2],i64 (offR (⟨⟨⟨n0,n1⟩,⟨n2,n3⟩,n4,n5,n6⟩,⟨⟨n7,n8⟩,n9,n10⟩,n11,n12,n13,n14⟩:Season)).2],s):=by
 rw[den_fn t30 _ _ _ rfl]
 simp only[b30]
 cases c0:seasonOk (⟨⟨⟨n0,n1⟩,⟨n2,n3⟩,n4,n5,n6⟩,⟨⟨n7,n8⟩,n9,n10⟩,n11,n12,n13,n14⟩:Season)
 ·have ho:=fun b lab loc s=>e_open13_bad n0 n1 n2 n3 n4 n5 n6 n7 n8 n9 n10 n11 n12 n13 n14 hs c0 b lab loc s
  simp (disch:=first|omega|assumption|decide +kernel|(simp;done)|(simp;omega)|fail) [c0,ho,offR]
 ·have hp:=fun lab loc s k0=>e_open13 n0 n1 n2 n3 n4 n5 n6 n7 n8 n9 n10 n11 n12 n13 n14 hs c0 lab loc s k0
  have h:=fun lab=>e_courses13 (⟨⟨⟨n0,n1⟩,⟨n2,n3⟩,n4,n5,n6⟩,⟨⟨n7,n8⟩,n9,n10⟩,n11,n12,n13,n14⟩:Season) c0 hs.each hs.first (off_yield (⟨⟨⟨n0,n1⟩,⟨n2,n3⟩,n4,n5,n6⟩,⟨⟨n7,n8⟩,n9,n10⟩,n11,n12,n13,n14⟩:Season) c0 s) (((n14.length:Int),-1),false) rfl lab
  have hk:=offQ_keep (⟨⟨⟨n0,n1⟩,⟨n2,n3⟩,n4,n5,n6⟩,⟨⟨n7,n8⟩,n9,n10⟩,n11,n12,n13,n14⟩:Season) (coursesFrom (⟨⟨⟨n0,n1⟩,⟨n2,n3⟩,n4,n5,n6⟩,⟨⟨n7,n8⟩,n9,n10⟩,n11,n12,n13,n14⟩:Season) n14.length [] n13) (((n14.length:Int),-1),false) rfl
  have hr:offR (⟨⟨⟨n0,n1⟩,⟨n2,n3⟩,n4,n5,n6⟩,⟨⟨n7,n8⟩,n9,n10⟩,n11,n12,n13,n14⟩:Season)=if (offQ (⟨⟨⟨n0,n1⟩,⟨n2,n3⟩,n4,n5,n6⟩,⟨⟨n7,n8⟩,n9,n10⟩,n11,n12,n13,n14⟩:Season)).2=true then((offQ (⟨⟨⟨n0,n1⟩,⟨n2,n3⟩,n4,n5,n6⟩,⟨⟨n7,n8⟩,n9,n10⟩,n11,n12,n13,n14⟩:Season)).1.1,0)else((0,0),3):=by rw[offR,if_pos c0]
  rw[hr]
  change (offQ (⟨⟨⟨n0,n1⟩,⟨n2,n3⟩,n4,n5,n6⟩,⟨⟨n7,n8⟩,n9,n10⟩,n11,n12,n13,n14⟩:Season)).1.2= !(offQ (⟨⟨⟨n0,n1⟩,⟨n2,n3⟩,n4,n5,n6⟩,⟨⟨n7,n8⟩,n9,n10⟩,n11,n12,n13,n14⟩:Season)).2 at hk
  change∀lab,den T _ _ lab _=some (_,offSt _ s (offQ (⟨⟨⟨n0,n1⟩,⟨n2,n3⟩,n4,n5,n6⟩,⟨⟨n7,n8⟩,n9,n10⟩,n11,n12,n13,n14⟩:Season)).1)at h
  generalize offQ (⟨⟨⟨n0,n1⟩,⟨n2,n3⟩,n4,n5,n6⟩,⟨⟨n7,n8⟩,n9,n10⟩,n11,n12,n13,n14⟩:Season)=q at h hk
  obtain⟨⟨⟨lo,hi⟩,b1⟩,b2⟩:=q
  simp only at hk
  subst hk
  simp only[offSt,offF,offEnv,season0,Bool.false_eq_true,if_false]at h
  cases b2
  ·simp (maxSteps:=1000000) (disch:=first|omega|assumption|decide +kernel|(simp;done)|(simp;omega)|fail) [run_drawnK,hp,h]
  ·simp (maxSteps:=1000000) (disch:=first|omega|assumption|decide +kernel|(simp;done)|(simp;omega)|fail) [run_drawnK,hp,h]
end Go.Proofs.YtoedpegjoccnlaaGreat.A

/-
  skies: brings, Regret.
-/
namespace Go.Proofs.YtoedpegjoccnlaaGreat.A
open Go.Ab
theorem days_ok {n:Season}(h:seasonOk n=true) {k:Nat}(hk:k<n.days.length):0≤n.days[k].lo∧n.days[k].lo≤n.days[k].hi∧n.days[k].hi≤2000:=by
 have h9:=(seasonOk_iff.1 h).2.2.2.2.2.2.2.2
 have:=allB_iff.1 h9 _ (List.getElem_mem hk)
 simp only[spanOk,Bool.and_eq_true,within_iff]at this
 omega
theorem firstMay_lt(n:Season): ∀(l:List Int) (k j:Nat),firstMay n k l=some j→k≤j∧j<k+l.length
 |[],_,_,h=>by cases h
 |x::l,k,j,h=>by
   simp only[firstMay]at h
   split at h
   ·cases h;simp
   ·have:=firstMay_lt n l (k+1) j h;simp only[List.length_cons];omega
end Go.Proofs.YtoedpegjoccnlaaGreat.A

/-
  law13: span, worth, best, isKnown, may, Example, works.
-/
namespace Go.Proofs.YtoedpegjoccnlaaGreat.A
open Go.Ab
@[simp] theorem e_span13(a b:Int)(lab s):den T 84 [i64 a,i64 b] lab s=some (.agg [i64 a,i64 b],s):=by
 rw[den_fn t84 _ _ _ rfl]
 simp only[b84]
 simp (disch:=first|omega|assumption|decide +kernel|(simp;done)|(simp;omega)|fail) []
def exSea:Sea:=⟨⟨100,120⟩,[⟨2,6⟩,⟨3,5⟩,⟨4,6⟩],[⟨50,4⟩,⟨60,7⟩,⟨45,2⟩,⟨70,9⟩]⟩
theorem e_Example05(lab s):den T 38 [] lab s=some (.tup [.agg [i64 100,i64 120, .sl .no 2 (es cSp exSea.places), .sl .no 2 (es cBoat exSea.boats)], .agg [i64 100,i64 120, .sl .no 2 (es cSp exSea.places), .sl .no 2 (es cBoat [⟨50,4⟩,⟨45,2⟩])]],s):=by
 have h:=fun lab loc s k0 k1=>e_Copy05 100 120 exSea.places exSea.boats (by decide) (by decide) lab loc s k0 k1
 simp only[exSea,es,List.map,cSp,cBoat]at h
 rw[den_fn t38 _ _ _ rfl]
 simp only[b38]
 simp (maxSteps:=1000000) (disch:=first|omega|assumption|decide +kernel|(simp;done)|(simp;omega)|fail) [run_drawnK,h,exSea,es,cSp,cBoat,elemsOk]
end Go.Proofs.YtoedpegjoccnlaaGreat.A

/-
  law13: Example, works.
-/
namespace Go.Proofs.YtoedpegjoccnlaaGreat.A
open Go.Ab
def exSeason:Season:=⟨⟨⟨2,4⟩,⟨1,3⟩,[⟨2,3⟩,⟨1,4⟩],[⟨6,0⟩,⟨5,1⟩,⟨4,0⟩],[⟨2,1,3,8,9⟩,⟨1,2,2,6,6⟩]⟩,exSea,[⟨⟨0,1⟩,⟨0,0⟩⟩,⟨⟨2,4⟩,⟨1,3⟩⟩],[[0,1],[0]],[0,1],[⟨60,80⟩,⟨90,120⟩,⟨100,121⟩]⟩
theorem e_Example13(lab s):den T 57 [] lab s=some (.agg (season0 exSeason),s):=by
 have h:=fun lab s=>e_Example05 lab s
 simp only[exSea,es,List.map,cSp,cBoat]at h
 rw[den_fn t57 _ _ _ rfl]
 simp only[b57]
 simp (maxSteps:=1000000) (disch:=first|omega|assumption|decide +kernel|(simp;done)|(simp;omega)|fail) [run_drawnK,h,exSeason,season0,exSea,es,cSp,cBoat,cAnc,cWal,cSky,cInts,cInt,elemsOk]
theorem exShort:Short exSeason:=⟨by decide,by decide,by decide,by decide,by decide,by decide,by decide,by decide⟩
theorem x_Best(lab s):den T 56 [.agg (season0 exSeason)] lab s=some (.tup [i64 60,i64 0],s):=by
 have h:=e_Best exSeason.net.wind.lo exSeason.net.wind.hi exSeason.net.cur.lo exSeason.net.cur.hi exSeason.net.grips exSeason.net.anch exSeason.net.walls exSeason.sea.weight.lo exSeason.sea.weight.hi exSeason.sea.places exSeason.sea.boats exSeason.skies exSeason.follows exSeason.first exSeason.days exShort lab s
 have hv:bestR exSeason=(60,0):=by decide +kernel
 change _=some (V.tup [i64 (bestR exSeason).1,i64 (bestR exSeason).2],s)at h
 rw[hv]at h
 exact h
end Go.Proofs.YtoedpegjoccnlaaGreat.A

/-
  SkiesStep.
-/
namespace Go.Proofs.YtoedpegjoccnlaaGreat.A
open Go.Ab
theorem leastL_ge(f:Int→Int): ∀(l:List Int) (a:Int),(∀x∈l,0≤f x)→0≤a→0≤l.foldl (fun a x=>min a (f x)) a
 |[],a,_,h=>h
 |x::l,a,hl,h=>by
   simp only[List.foldl_cons]
   exact leastL_ge f l _ (fun y hy=>hl y (by simp[hy])) (by have:=hl x (by simp);omega)
theorem leastL_le0(f:Int→Int): ∀(l:List Int) (a:Int),l.foldl (fun a x=>min a (f x)) a≤a
 |[],a=>by simp
 |x::l,a=>by
   simp only[List.foldl_cons]
   have:=leastL_le0 f l (min a (f x))
   omega
theorem worthS_range {n:Season}(hok:seasonOk n=true): ∀(r:Nat) (sky:Int),r≤n.days.length→0≤sky→sky<(n.skies.length:Int)→0≤worthS n r sky∧worthS n r sky≤2000
 |0,_,_,_,_=>by simp[worthS]
 |r+1,sky,hr,h0,h1=>by
   obtain⟨hk2,_,hf⟩:=follows_ok hok (k:=sky.toNat) (by omega)
   have hfo:n.follows.getD sky.toNat []=n.follows[sky.toNat]:=by simp[List.getD,hk2]
   have a1:=leastL_ge (worthS n r) n.follows[sky.toNat] 2000 (fun x hx=>(worthS_range hok r x (by omega) (hf x hx).1 (hf x hx).2).1) (by omega)
   have a2:=leastL_le0 (worthS n r) n.follows[sky.toNat] 2000
   have hd:=days_ok hok (k:=n.days.length-(r+1)) (by omega)
   have hlo:dayLo n (n.days.length-(r+1))=n.days[n.days.length-(r+1)].lo:=by simp[dayLo,show n.days.length-(r+1)<n.days.length by omega]
   simp only[worthS,hfo,hlo,leastL]
   split<;>omega
end Go.Proofs.YtoedpegjoccnlaaGreat.A

/-
  What the arguments read as.
-/
namespace Go.Proofs.YtoedpegjoccnlaaGreat.A
open Go.Ab
set_option maxRecDepth 100000
theorem cells30:Tryz.prog.cellsOf 30=2:=by kernel_rfl
theorem cells135:Tryz.prog.cellsOf 135=2:=by kernel_rfl
theorem cells137:Tryz.prog.cellsOf 137=5:=by kernel_rfl
theorem cells84:Tryz.prog.cellsOf 84=2:=by kernel_rfl
theorem cells103:Tryz.prog.cellsOf 103=4:=by kernel_rfl
theorem cells26:Tryz.prog.cellsOf 26=1:=by kernel_rfl
theorem cells3:Tryz.prog.cellsOf 3=1:=by kernel_rfl
variable {B : TypeId → Nat → Prop} {n : Nat} {vs : List V}
theorem fit_int(h:Fit Tryz.prog B (n+1) 3 vs): ∃x,vs=[i64 x]:=by
 simp only[Fit,Tryz.underlying3]at h
 exact h
theorem fit_sp(h:Fit Tryz.prog B (n+2) 30 vs): ∃x:Sp,vs=cSp x:=by
 simp only[Fit,FitF,Tryz.underlying30,Tryz.underlying3]at h
 obtain⟨_,_,rfl,⟨x,rfl⟩,_,_,rfl,⟨y,rfl⟩,rfl⟩:=h
 exact⟨⟨x,y⟩,rfl⟩
theorem fit_anc(h:Fit Tryz.prog B (n+2) 135 vs): ∃x:Anc,vs=cAnc x:=by
 simp only[Fit,FitF,Tryz.underlying135,Tryz.underlying3]at h
 obtain⟨_,_,rfl,⟨x,rfl⟩,_,_,rfl,⟨y,rfl⟩,rfl⟩:=h
 exact⟨⟨x,y⟩,rfl⟩
theorem fit_boat(h:Fit Tryz.prog B (n+2) 84 vs): ∃x:Boat,vs=cBoat x:=by
 simp only[Fit,FitF,Tryz.underlying84,Tryz.underlying3]at h
 obtain⟨_,_,rfl,⟨x,rfl⟩,_,_,rfl,⟨y,rfl⟩,rfl⟩:=h
 exact⟨⟨x,y⟩,rfl⟩
theorem fit_wal(h:Fit Tryz.prog B (n+2) 137 vs): ∃x:Wal,vs=cWal x:=by
 simp only[Fit,FitF,Tryz.underlying137,Tryz.underlying3]at h
 obtain⟨_,_,rfl,⟨x,rfl⟩,_,_,rfl,⟨y,rfl⟩,_,_,rfl,⟨z,rfl⟩,_,_,rfl,⟨u,rfl⟩,_,_,rfl,⟨v,rfl⟩,rfl⟩:=h
 exact⟨⟨x,y,z,u,v⟩,rfl⟩
theorem fit_sky(h:Fit Tryz.prog B (n+3) 103 vs): ∃x:Sky,vs=cSky x:=by
 rw[Fit,Tryz.underlying103]at h
 simp only[FitF]at h
 obtain⟨_,_,rfl,h1,_,_,rfl,h2,rfl⟩:=h
 obtain⟨x,rfl⟩:=fit_sp h1
 obtain⟨y,rfl⟩:=fit_sp h2
 exact⟨⟨x,y⟩,rfl⟩
theorem es_all {α:Type} {f:α→List V}(l:List (List V))(h: ∀x∈l,∃y,x=f y): ∃l':List α,l=es f l':=by
 obtain⟨l',h1,_⟩:=es_of (Q:=fun _=>True) l fun x hx=>by obtain⟨y,hy⟩:=h x hx;exact⟨y,hy,trivial⟩
 exact⟨l',h1⟩
theorem fit_ints(h:Fit Tryz.prog B (n+2) 26 vs): ∃l:List Int,vs=[.sl .no 1 (es cInt l)]∧B 3 l.length:=by
 rw[Fit,Tryz.underlying26]at h
 simp only at h
 obtain⟨l,rfl,hb,h⟩:=h
 obtain⟨l',rfl⟩:=es_all (f:=cInt) l fun x hx=>by obtain⟨y,hy⟩:=fit_int (h x hx);exact⟨y,hy⟩
 rw[cells3]
 exact⟨l',rfl,by simpa using hb⟩
theorem fit_sps(h:Fit Tryz.prog B (n+3) 31 vs): ∃l:List Sp,vs=[.sl .no 2 (es cSp l)]∧B 30 l.length:=by
 rw[Fit,Tryz.underlying31]at h
 simp only at h
 obtain⟨l,rfl,hb,h⟩:=h
 obtain⟨l',rfl⟩:=es_all (f:=cSp) l fun x hx=>fit_sp (h x hx)
 rw[cells30]
 exact⟨l',rfl,by simpa using hb⟩
theorem fit_ancs(h:Fit Tryz.prog B (n+3) 57 vs): ∃l:List Anc,vs=[.sl .no 2 (es cAnc l)]∧B 135 l.length:=by
 rw[Fit,Tryz.underlying57]at h
 simp only at h
 obtain⟨l,rfl,hb,h⟩:=h
 obtain⟨l',rfl⟩:=es_all (f:=cAnc) l fun x hx=>fit_anc (h x hx)
 rw[cells135]
 exact⟨l',rfl,by simpa using hb⟩
theorem fit_wals(h:Fit Tryz.prog B (n+3) 58 vs): ∃l:List Wal,vs=[.sl .no 5 (es cWal l)]∧B 137 l.length:=by
 rw[Fit,Tryz.underlying58]at h
 simp only at h
 obtain⟨l,rfl,hb,h⟩:=h
 obtain⟨l',rfl⟩:=es_all (f:=cWal) l fun x hx=>fit_wal (h x hx)
 rw[cells137]
 exact⟨l',rfl,by simpa using hb⟩
theorem fit_boats(h:Fit Tryz.prog B (n+3) 32 vs): ∃l:List Boat,vs=[.sl .no 2 (es cBoat l)]∧B 84 l.length:=by
 rw[Fit,Tryz.underlying32]at h
 simp only at h
 obtain⟨l,rfl,hb,h⟩:=h
 obtain⟨l',rfl⟩:=es_all (f:=cBoat) l fun x hx=>fit_boat (h x hx)
 rw[cells84]
 exact⟨l',rfl,by simpa using hb⟩
theorem fit_skys(h:Fit Tryz.prog B (n+4) 61 vs): ∃l:List Sky,vs=[.sl .no 4 (es cSky l)]∧B 103 l.length:=by
 rw[Fit,Tryz.underlying61]at h
 simp only at h
 obtain⟨l,rfl,hb,h⟩:=h
 obtain⟨l',rfl⟩:=es_all (f:=cSky) l fun x hx=>fit_sky (h x hx)
 rw[cells103]
 exact⟨l',rfl,by simpa using hb⟩
theorem fit_intss(h:Fit Tryz.prog B (n+3) 22 vs): ∃l:List (List Int),vs=[.sl .no 1 (es cInts l)]∧B 26 l.length∧ ∀x∈l,B 3 x.length:=by
 rw[Fit,Tryz.underlying22]at h
 simp only at h
 obtain⟨l,rfl,hb,h⟩:=h
 obtain⟨l',rfl,hl⟩:=es_of (f:=cInts) (Q:=fun x=>B 3 x.length) l fun x hx=>fit_ints (h x hx)
 rw[cells26]
 exact⟨l',rfl,by simpa using hb,hl⟩
structure Held(B:TypeId→Nat→Prop)(n:Season):Prop where
 grips:B 30 n.net.grips.length
 anch:B 135 n.net.anch.length
 walls:B 137 n.net.walls.length
 places:B 30 n.sea.places.length
 boats:B 84 n.sea.boats.length
 skies:B 103 n.skies.length
 follows:B 26 n.follows.length
 first:B 3 n.first.length
 days:B 30 n.days.length
 each: ∀l∈n.follows,B 3 l.length
theorem fit_season(h:Fit Tryz.prog B (n+6) 63 vs): ∃m:Season,vs=season0 m∧Held B m:=by
 rw[Fit,Tryz.underlying63]at h
 simp only[FitF]at h
 obtain⟨_,_,rfl,hnet,_,_,rfl,hsea,_,_,rfl,h1,_,_,rfl,h2,_,_,rfl,h3,_,_,rfl,h4,rfl⟩:=h
 rw[Fit,Tryz.underlying60]at hnet
 simp only[FitF]at hnet
 obtain⟨_,_,rfl,k1,_,_,rfl,k2,_,_,rfl,k3,_,_,rfl,k4,_,_,rfl,k5,rfl⟩:=hnet
 rw[Fit,Tryz.underlying34]at hsea
 simp only[FitF]at hsea
 obtain⟨_,_,rfl,j1,_,_,rfl,j2,_,_,rfl,j3,rfl⟩:=hsea
 obtain⟨x1,rfl⟩:=fit_sp k1
 obtain⟨x2,rfl⟩:=fit_sp k2
 obtain⟨x3,rfl,b3⟩:=fit_sps k3
 obtain⟨x4,rfl,b4⟩:=fit_ancs k4
 obtain⟨x5,rfl,b5⟩:=fit_wals k5
 obtain⟨y1,rfl⟩:=fit_sp j1
 obtain⟨y2,rfl,c2⟩:=fit_sps j2
 obtain⟨y3,rfl,c3⟩:=fit_boats j3
 obtain⟨z1,rfl,d1⟩:=fit_skys h1
 obtain⟨z2,rfl,d2,d2'⟩:=fit_intss h2
 obtain⟨z3,rfl,d3⟩:=fit_ints h3
 obtain⟨z4,rfl,d4⟩:=fit_sps h4
 exact⟨⟨⟨x1,x2,x3,x4,x5⟩,⟨y1,y2,y3⟩,z1,z2,z3,z4⟩,rfl,⟨b3,b4,b5,c2,c3,d1,d2,d3,d4,d2'⟩⟩
def Reach(e:TypeId)(k:Nat):Prop:=k≤maxLen∧k*Tryz.prog.bytesOf e≤reachBytes
theorem bytes30:Tryz.prog.bytesOf 30=16:=by kernel_rfl
theorem bytes135:Tryz.prog.bytesOf 135=16:=by kernel_rfl
theorem bytes137:Tryz.prog.bytesOf 137=40:=by kernel_rfl
theorem bytes84:Tryz.prog.bytesOf 84=16:=by kernel_rfl
theorem bytes103:Tryz.prog.bytesOf 103=32:=by kernel_rfl
theorem bytes26:Tryz.prog.bytesOf 26=24:=by kernel_rfl
theorem bytes3:Tryz.prog.bytesOf 3=8:=by kernel_rfl
end Go.Proofs.YtoedpegjoccnlaaGreat.A

/-
  SkiesPut.
-/
namespace Go.Proofs.YtoedpegjoccnlaaGreat.A
open Go.Ab
end Go.Proofs.YtoedpegjoccnlaaGreat.A

/-
  Copies of seasons; all worths; worse.
-/
namespace Go.Proofs.YtoedpegjoccnlaaGreat.A
open Go.Ab
structure ShortC(n:Season):Prop where
 grips:n.net.grips.length<8796093022208
 anch:n.net.anch.length<8796093022208
 walls:n.net.walls.length<3518437208884
 places:n.sea.places.length<8796093022208
 boats:n.sea.boats.length<8796093022208
 skies:n.skies.length<4398046511104
 follows:n.follows.length<5864062014805
 first:n.first.length<17592186044416
 days:n.days.length<8796093022207
 each: ∀l∈n.follows,l.length<17592186044416
theorem ShortC.short {n:Season}(h:ShortC n):Short n:=by
 obtain⟨h1,h2,h3,h4,h5,h6,h7,h8,h9,h10⟩:=h
 exact⟨by omega,by omega,by omega,by omega,by omega,by omega,by omega,fun l hl=>by have:=h10 l hl;omega⟩
theorem filter_tt {α:Type}(l:List α):l.filter (fun _=>true)=l:=by simp
@[simp] theorem es_ints1(l:List (List Int))(x:List Int):es cInts l ++[[.sl .no 1 (es cInt x)]]=es cInts (l ++[x]):=by simp[es]
@[simp] theorem map_cInts(r:Ren)(h:r.c .no= .no)(l):(es cInts l).map (V.mapAll r)=es cInts l:=es_map _ _ (fun _=>by simp[h]) _
@[simp] theorem map_cInts_d(d keep l):(es cInts l).map (V.mapAll (dropR d keep))=es cInts l:=map_cInts _ rfl l
@[simp] theorem map_cInts_f(d k z e l):(es cInts l).map (V.mapAll (frzR d k z e))=es cInts l:=map_cInts _ rfl l
@[simp] theorem map_cInts_r(own d loc ls d' lab l):(es cInts l).map (V.mapAll (renR own d loc ls d' lab))=es cInts l:=map_cInts _ (by cases own<;>rfl) l
@[simp] theorem strip_cInts(l):(es cInts l).map V.stripAll=es cInts l:=es_strip _ (fun _=>by simp) _
@[simp] theorem refs_cInts(own:Bool)(d:Nat)(l):(es cInts l).flatMap (V.refsAll own d)=[]:=es_refs _ _ _ (fun _=>by cases own<;>simp[V.refs,Cap.refs]) _
@[simp] theorem elems_cInts(l):elemsOk (es cInts l) 1=true:=elemsOk_es _ _ (fun _=>by simp) _
def zeroSeason:List V:=[i64 0,i64 0,i64 0,i64 0, .sl .full 2 [], .sl .full 2 [], .sl .full 5 [],i64 0,i64 0, .sl .full 2 [], .sl .full 2 [], .sl .full 4 [], .sl .full 1 [], .sl .full 1 [], .sl .full 2 []]
def copyCell(n:Season)(d:Nat)(a:List (List Int)):List V:=[i64 n.net.wind.lo,i64 n.net.wind.hi,i64 n.net.cur.lo,i64 n.net.cur.hi, .asl d 112 2 n.net.grips.length 0 n.net.grips.length, .asl d 1112 2 n.net.anch.length 0 n.net.anch.length, .asl d 2112 5 n.net.walls.length 0 n.net.walls.length,i64 n.sea.weight.lo,i64 n.sea.weight.hi, .asl d 160 2 n.sea.places.length 0 n.sea.places.length, .asl d 1160 2 n.sea.boats.length 0 n.sea.boats.length,
 .asl d 224 4 n.skies.length 0 n.skies.length, .asl d 62 1 a.length 0 a.length, .asl d 288 1 n.first.length 0 n.first.length, .asl d 352 2 n.days.length 0 n.days.length]
theorem copyCell_12(n d a)(h:12<(copyCell n d a).length):(copyCell n d a)[12]= .asl d 62 1 a.length 0 a.length:=rfl
theorem copyCell_12'(n d a):(copyCell n d a)[12]? =some (.asl d 62 1 a.length 0 a.length):=rfl
theorem copyCell_len(n d a):(copyCell n d a).length=15:=rfl
theorem copyCell_set(n d a b):(copyCell n d a).set 12 (.asl d 62 1 b.length 0 b.length)=copyCell n d b:=rfl
def copyLoc(n:Season)(d:Nat)(a:List (List Int)):Ab.Loc:=[(16, .cell (season0 n)),(32, .cell zeroSeason),(112, .arr 2 (es cSp n.net.grips)),(1112, .arr 2 (es cAnc n.net.anch)),(2112, .arr 5 (es cWal n.net.walls)),
 (160, .arr 2 (es cSp n.sea.places)),(1160, .arr 2 (es cBoat n.sea.boats)),(224, .arr 4 (es cSky n.skies)),(288, .arr 1 (es cInt n.first)),(352, .arr 2 (es cSp n.days)),
 (48, .cell (copyCell n d a)),(62, .arr 1 (es cInts a))]
set_option maxHeartbeats 4000000 in
theorem e_Copy13_l(n0:Int)(n1:Int)(n2:Int)(n3:Int)(n4:List Sp)(n5:List Anc)(n6:List Wal)(n7:Int)(n8:Int)(n9:List Sp)(n10:List Boat)(n11:List Sky)(n12:List (List Int))(n13:List Int)(n14:List Sp)(hs:ShortC (⟨⟨⟨n0,n1⟩,⟨n2,n3⟩,n4,n5,n6⟩,⟨⟨n7,n8⟩,n9,n10⟩,n11,n12,n13,n14⟩:Season))(s:Stk):
 Run T b26l0 [(1, .ptr s.length 16 0),(2, .ptr s.length 32 0),(3, .ptr s.length 48 0),(4,i64 0)] (copyLoc (⟨⟨⟨n0,n1⟩,⟨n2,n3⟩,n4,n5,n6⟩,⟨⟨n7,n8⟩,n9,n10⟩,n11,n12,n13,n14⟩:Season) s.length []::s)=
  some (.exit 0,[(1, .ptr s.length 16 0),(2, .ptr s.length 32 0),(3, .ptr s.length 48 0),(4,i64 n12.length),(28, .bool false)],copyLoc (⟨⟨⟨n0,n1⟩,⟨n2,n3⟩,n4,n5,n6⟩,⟨⟨n7,n8⟩,n9,n10⟩,n11,n12,n13,n14⟩:Season) s.length n12::s):=by
 obtain⟨h1,h2,h3,h4,h5,h6,h7,h8,h9,h10⟩:=hs
 simp only at h1 h2 h3 h4 h5 h6 h7 h8 h9 h10
 have key:=loop_fold (T:=T) (live:=[1,2,3,4]) (keep:=[16,32,48,62,112,160,176,224,240,288,304,352,1112,1160,2112,2160,3112,3160,4112,4160,5112,5160,6112,6160,7112,7160,8112,8160]) (b:=d26l0) n12 (fun k (a:List (List Int))=>a.length=k) (fun a x=>a ++[x])
  (fun k _=>[(1, .ptr s.length 16 0),(2, .ptr s.length 32 0),(3, .ptr s.length 48 0),(4,i64 k)]) (fun _ a=>copyLoc (⟨⟨⟨n0,n1⟩,⟨n2,n3⟩,n4,n5,n6⟩,⟨⟨n7,n8⟩,n9,n10⟩,n11,n12,n13,n14⟩:Season) s.length a::s)
  (fun a=>(.exit 0,[(1, .ptr s.length 16 0),(2, .ptr s.length 32 0),(3, .ptr s.length 48 0),(4,i64 n12.length),(28, .bool false)],copyLoc (⟨⟨⟨n0,n1⟩,⟨n2,n3⟩,n4,n5,n6⟩,⟨⟨n7,n8⟩,n9,n10⟩,n11,n12,n13,n14⟩:Season) s.length a::s))
  (by simp) ?_ ?_ ?_ [] (by simp) [(1, .ptr s.length 16 0),(2, .ptr s.length 32 0),(3, .ptr s.length 48 0),(4,i64 0)] (copyLoc (⟨⟨⟨n0,n1⟩,⟨n2,n3⟩,n4,n5,n6⟩,⟨⟨n7,n8⟩,n9,n10⟩,n11,n12,n13,n14⟩:Season) s.length []::s) (by simp) (by simp[copyLoc,zeroSeason,season0,copyCell])
 ·have e: ∀(l a:List (List Int)),l.foldl (fun a x=>a ++[x]) a=a ++l:=by
   intro l
   induction l with
   |nil=>simp
   |cons x r ih=>intro a;simp[ih]
  rw[e,List.nil_append]at key
  exact key
 ·intro k a hk hi
  subst hi
  have hx:=h10 n12[a.length] (List.getElem_mem hk)
  have hcl:Loc.ren (dropR s.length ((copyLoc (⟨⟨⟨n0,n1⟩,⟨n2,n3⟩,n4,n5,n6⟩,⟨⟨n7,n8⟩,n9,n10⟩,n11,n12,n13,n14⟩:Season) s.length a).map (·.1))) (copyLoc (⟨⟨⟨n0,n1⟩,⟨n2,n3⟩,n4,n5,n6⟩,⟨⟨n7,n8⟩,n9,n10⟩,n11,n12,n13,n14⟩:Season) s.length a)=copyLoc (⟨⟨⟨n0,n1⟩,⟨n2,n3⟩,n4,n5,n6⟩,⟨⟨n7,n8⟩,n9,n10⟩,n11,n12,n13,n14⟩:Season) s.length a:=by simp[copyLoc,zeroSeason,season0,copyCell]
  have hcl2: ∀m,Loc.ren (dropR s.length (((copyLoc (⟨⟨⟨n0,n1⟩,⟨n2,n3⟩,n4,n5,n6⟩,⟨⟨n7,n8⟩,n9,n10⟩,n11,n12,n13,n14⟩:Season) s.length a).put 624 (.tok m)).map (·.1))) ((copyLoc (⟨⟨⟨n0,n1⟩,⟨n2,n3⟩,n4,n5,n6⟩,⟨⟨n7,n8⟩,n9,n10⟩,n11,n12,n13,n14⟩:Season) s.length a).put 624 (.tok m))=(copyLoc (⟨⟨⟨n0,n1⟩,⟨n2,n3⟩,n4,n5,n6⟩,⟨⟨n7,n8⟩,n9,n10⟩,n11,n12,n13,n14⟩:Season) s.length a).put 624 (.tok m):=by intro m;simp[copyLoc,zeroSeason,season0,copyCell]
  have m16:16∈(copyLoc (⟨⟨⟨n0,n1⟩,⟨n2,n3⟩,n4,n5,n6⟩,⟨⟨n7,n8⟩,n9,n10⟩,n11,n12,n13,n14⟩:Season) s.length a).map (·.1):=by simp[copyLoc]
  have m48:48∈(copyLoc (⟨⟨⟨n0,n1⟩,⟨n2,n3⟩,n4,n5,n6⟩,⟨⟨n7,n8⟩,n9,n10⟩,n11,n12,n13,n14⟩:Season) s.length a).map (·.1):=by simp[copyLoc]
  have m62:62∈(copyLoc (⟨⟨⟨n0,n1⟩,⟨n2,n3⟩,n4,n5,n6⟩,⟨⟨n7,n8⟩,n9,n10⟩,n11,n12,n13,n14⟩:Season) s.length a).map (·.1):=by simp[copyLoc]
  have g16:(copyLoc (⟨⟨⟨n0,n1⟩,⟨n2,n3⟩,n4,n5,n6⟩,⟨⟨n7,n8⟩,n9,n10⟩,n11,n12,n13,n14⟩:Season) s.length a).get 16=some (.cell (season0 (⟨⟨⟨n0,n1⟩,⟨n2,n3⟩,n4,n5,n6⟩,⟨⟨n7,n8⟩,n9,n10⟩,n11,n12,n13,n14⟩:Season))):=rfl
  have g48:(copyLoc (⟨⟨⟨n0,n1⟩,⟨n2,n3⟩,n4,n5,n6⟩,⟨⟨n7,n8⟩,n9,n10⟩,n11,n12,n13,n14⟩:Season) s.length a).get 48=some (.cell (copyCell (⟨⟨⟨n0,n1⟩,⟨n2,n3⟩,n4,n5,n6⟩,⟨⟨n7,n8⟩,n9,n10⟩,n11,n12,n13,n14⟩:Season) s.length a)):=rfl
  have n624: ¬624∈(copyLoc (⟨⟨⟨n0,n1⟩,⟨n2,n3⟩,n4,n5,n6⟩,⟨⟨n7,n8⟩,n9,n10⟩,n11,n12,n13,n14⟩:Season) s.length a).map (·.1):=by simp[copyLoc]
  have g62:(copyLoc (⟨⟨⟨n0,n1⟩,⟨n2,n3⟩,n4,n5,n6⟩,⟨⟨n7,n8⟩,n9,n10⟩,n11,n12,n13,n14⟩:Season) s.length a).get 62=some (.arr 1 (es cInts a)):=rfl
  have g624:(copyLoc (⟨⟨⟨n0,n1⟩,⟨n2,n3⟩,n4,n5,n6⟩,⟨⟨n7,n8⟩,n9,n10⟩,n11,n12,n13,n14⟩:Season) s.length a).get 624=none:=rfl
  by_cases h0:n12[a.length]=[]
  ·have e0:es cInts a ++[[.sl .no 1 []]]=es cInts (a ++[[]]):=es_ints1 a []
   generalize hF:copyLoc (⟨⟨⟨n0,n1⟩,⟨n2,n3⟩,n4,n5,n6⟩,⟨⟨n7,n8⟩,n9,n10⟩,n11,n12,n13,n14⟩:Season) s.length a=F at*
   simp (maxSteps:=1000000) (disch:=first|omega|assumption|decide +kernel|(simp;done)|(simp;omega)|fail) [run_drawnK,hk,h0,e0,appD_full_nil,appA_one,hcl,hcl2,m16,m48,m62,g16,g48,g62,g624,filter_tt,copyCell_12,copyCell_12',copyCell_len,copyCell_set,n624,season0,wk a.length (by omega)]
   subst hF
   simp[copyLoc,zeroSeason,season0,copyCell]
  ·have he:es cInt n12[a.length]≠[]:=by simpa using h0
   generalize hF:copyLoc (⟨⟨⟨n0,n1⟩,⟨n2,n3⟩,n4,n5,n6⟩,⟨⟨n7,n8⟩,n9,n10⟩,n11,n12,n13,n14⟩:Season) s.length a=F at*
   simp (maxSteps:=1000000) (disch:=first|omega|assumption|decide +kernel|(simp;done)|(simp;omega)|fail) [run_drawnK,hk,appD_full,appA_one,hcl,hcl2,m16,m48,m62,g16,g48,g62,g624,filter_tt,copyCell_12,copyCell_12',copyCell_len,copyCell_set,n624,season0,wk a.length (by omega)]
   subst hF
   simp[copyLoc,zeroSeason,season0,copyCell]
 ·intro k a hk hi
  simp[hi]
 ·intro a hi
  simp[copyLoc,season0]
def copyCells(n:Season)(d lab:Nat):List V:=[i64 n.net.wind.lo,i64 n.net.wind.hi,i64 n.net.cur.lo,i64 n.net.cur.hi, .asl d lab 2 n.net.grips.length 0 n.net.grips.length, .asl d (lab+1000) 2 n.net.anch.length 0 n.net.anch.length, .asl d (lab+2000) 5 n.net.walls.length 0 n.net.walls.length,i64 n.sea.weight.lo,i64 n.sea.weight.hi, .asl d (lab+3000) 2 n.sea.places.length 0 n.sea.places.length, .asl d (lab+4000) 2 n.sea.boats.length 0 n.sea.boats.length,
 .asl d (lab+5000) 4 n.skies.length 0 n.skies.length, .asl d (lab+6000) 1 n.follows.length 0 n.follows.length, .asl d (lab+7000) 1 n.first.length 0 n.first.length, .asl d (lab+8000) 2 n.days.length 0 n.days.length]
set_option maxHeartbeats 4000000 in
theorem e_Copy13(n0:Int)(n1:Int)(n2:Int)(n3:Int)(n4:List Sp)(n5:List Anc)(n6:List Wal)(n7:Int)(n8:Int)(n9:List Sp)(n10:List Boat)(n11:List Sky)(n12:List (List Int))(n13:List Int)(n14:List Sp)(hs:ShortC (⟨⟨⟨n0,n1⟩,⟨n2,n3⟩,n4,n5,n6⟩,⟨⟨n7,n8⟩,n9,n10⟩,n11,n12,n13,n14⟩:Season))(lab)(loc:Ab.Loc)(s:Stk)(k0:loc.get lab=none)(k1:loc.get (lab+1000)=none)(k2:loc.get (lab+2000)=none)(k3:loc.get (lab+3000)=none)(k4:loc.get (lab+4000)=none)(k5:loc.get (lab+5000)=none)(k6:loc.get (lab+6000)=none)(k7:loc.get (lab+7000)=none)(k8:loc.get (lab+8000)=none):
 den T 26 [.agg [i64 n0,i64 n1,i64 n2,i64 n3, .sl .no 2 (es cSp n4), .sl .no 2 (es cAnc n5), .sl .no 5 (es cWal n6),i64 n7,i64 n8, .sl .no 2 (es cSp n9), .sl .no 2 (es cBoat n10), .sl .no 4 (es cSky n11), .sl .no 1 (es cInts n12), .sl .no 1 (es cInt n13), .sl .no 2 (es cSp n14)]] lab (loc::s)=some (.agg (copyCells (⟨⟨⟨n0,n1⟩,⟨n2,n3⟩,n4,n5,n6⟩,⟨⟨n7,n8⟩,n9,n10⟩,n11,n12,n13,n14⟩:Season) s.length lab),((((((((loc.put lab (.arr 2 (es cSp n4))).put (lab+1000) (.arr 2 (es cAnc n5))).put (lab+2000) (.arr 5 (es cWal n6))).put (lab+3000) (.arr 2 (es cSp n9))).put (lab+4000) (.arr 2 (es cBoat n10))).put (lab+5000) (.arr 4 (es cSky n11))).put (lab+6000) (.arr 1 (es cInts n12))).put (lab+7000) (.arr 1 (es cInt n13))).put (lab+8000) (.arr 2 (es cSp n14))::s):=by
 have key:=e_Copy13_l n0 n1 n2 n3 n4 n5 n6 n7 n8 n9 n10 n11 n12 n13 n14 hs (loc::s)
 obtain⟨h1,h2,h3,h4,h5,h6,h7,h8,h9,h10⟩:=hs
 simp only at h1 h2 h3 h4 h5 h6 h7 h8 h9 h10
 simp only[copyLoc,copyCell,zeroSeason,season0,List.length_cons,es_nil,List.length_nil]at key
 rw[den_fn t26 _ _ _ rfl]
 simp only[b26]
 simp (maxSteps:=6000000) (disch:=first|omega|assumption|decide +kernel|(simp;done)|(simp;omega)|fail) [run_drawnK,appmD_es,key,k0,k1,k2,k3,k4,k5,k6,k7,k8,copyCells]
end Go.Proofs.YtoedpegjoccnlaaGreat.A

/-
  law13: all, worse.
-/
namespace Go.Proofs.YtoedpegjoccnlaaGreat.A
open Go.Ab
def dayL(n:Season)(day:Nat):List Int:=(List.range n.skies.length).map fun(k:Nat)=>worthS n (n.days.length-day) (k:Int)
def allS(n:Season):List Int:=(List.range n.days.length).flatMap (dayL n)
theorem dayL_len(n:Season)(day:Nat):(dayL n day).length=n.skies.length:=by simp[dayL]
def leL:List Int→List Int→Prop
 |[],_=>True
 |_::_,[]=>False
 |x::k,y::l=>x≤y∧leL k l
theorem leL_app: ∀ {a b c d:List Int},a.length=b.length→leL a b→leL c d→leL (a ++c) (b ++d)
 |[],[],_,_,_,_,h=>h
 |x::a,y::b,c,d,hl,h1,h2=>⟨h1.1,leL_app (by simpa using hl) h1.2 h2⟩
theorem leL_map(f g:Nat→Int): ∀l:List Nat,(∀x∈l,f x≤g x)→leL (l.map f) (l.map g)
 |[],_=>trivial
 |x::l,h=>⟨h x (by simp),leL_map f g l fun y hy=>h y (by simp[hy])⟩
theorem leL_flat(f g:Nat→List Int): ∀l:List Nat,(∀x∈l,(f x).length=(g x).length∧leL (f x) (g x))→leL (l.flatMap f) (l.flatMap g)
 |[],_=>trivial
 |x::l,h=>leL_app (h x (by simp)).1 (h x (by simp)).2 (leL_flat f g l fun y hy=>h y (by simp[hy]))
theorem leL_more: ∀ {a b c:List Int},leL a b→leL a (b ++c)
 |[],_,_,_=>trivial
 |_::_,[],_,h=>by cases h
 |_::_,_::_,_,h=>⟨h.1,leL_more h.2⟩
structure Worse(n o:Season):Prop where
 skies:n.skies.length=o.skies.length
 days:n.days.length≤o.days.length
 le: ∀day sky:Nat,day<n.days.length→sky<n.skies.length→worthS n (n.days.length-day) sky≤worthS o (o.days.length-day) sky
 best:bestS n≤bestS o
theorem Worse.all {n o:Season}(h:Worse n o):leL (allS n) (allS o):=by
 have e:List.range o.days.length=List.range n.days.length ++(List.range (o.days.length-n.days.length)).map (n.days.length+ ·):=by
  have:=List.range_add (n:=n.days.length) (m:=o.days.length-n.days.length)
  rw[show n.days.length+(o.days.length-n.days.length)=o.days.length by have:=h.days;omega]at this
  exact this
 rw[allS,allS,e,List.flatMap_append]
 refine leL_more (leL_flat _ _ _ fun day hd=>⟨by rw[dayL_len,dayL_len,h.skies],?_⟩)
 rw[dayL,dayL,←h.skies]
 exact leL_map _ _ _ fun sky hk=>h.le day sky (List.mem_range.1 hd) (List.mem_range.1 hk)
end Go.Proofs.YtoedpegjoccnlaaGreat.A

/-
  What the reach of the arguments says of a season's copy.
-/
namespace Go.Proofs.YtoedpegjoccnlaaGreat.A
open Go.Ab
theorem held_shortC {m:Season}(h:Held Reach m):ShortC m:=by
 obtain⟨h1,h2,h3,h4,h5,h6,h7,h8,h9,h10⟩:=h
 simp only[Reach,bytes30,bytes135,bytes137,bytes84,bytes103,bytes26,bytes3,reachBytes]at h1 h2 h3 h4 h5 h6 h7 h8 h9 h10
 exact⟨by omega,by omega,by omega,by omega,by omega,by omega,by omega,by omega,by omega,fun l hl=>by have:=h10 l hl;omega⟩
end Go.Proofs.YtoedpegjoccnlaaGreat.A

/-
  When no worth is greater; SkiesDay.
-/
namespace Go.Proofs.YtoedpegjoccnlaaGreat.A
open Go.Ab
@[simp] theorem frzE_tok(l e loc r n):frzE l e loc r (some (.tok n))=(e,loc::r):=rfl
theorem leastL_le(f:Int→Int) {l:List Int} {x:Int}(hx:x∈l):leastL f l≤f x:=by
 have: ∀(l:List Int) (a:Int),x∈l→l.foldl (fun a x=>min a (f x)) a≤f x:=by
  intro l
  induction l with
  |nil=>intro a h;cases h
  |cons y l ih=>
    intro a h
    simp only[List.foldl_cons]
    rcases List.mem_cons.1 h with rfl|h
    ·have:=leastL_le0 f l (min a (f x));omega
    ·exact ih _ h
 exact this l 2000 hx
theorem leastL_ge'(g:Int→Int)(b:Int)(hb:b≤2000) {l:List Int}(h: ∀x∈l,b≤g x):b≤leastL g l:=by
 have: ∀(l:List Int) (a:Int),b≤a→(∀x∈l,b≤g x)→b≤l.foldl (fun a x=>min a (g x)) a:=by
  intro l
  induction l with
  |nil=>intro a h _;exact h
  |cons y l ih=>
    intro a h h2
    simp only[List.foldl_cons]
    have:=h2 y (by simp)
    exact ih _ (by omega) (fun x hx=>h2 x (by simp[hx]))
 exact this l 2000 hb h
theorem leastL_mono {f g:Int→Int} {l l':List Int}(h: ∀x∈l',x∈l∧f x≤g x):leastL f l≤leastL g l':=
 leastL_ge' g _ (leastL_le0 f l 2000) fun x hx=>Int.le_trans (leastL_le f (h x hx).1) (h x hx).2
theorem worth_mono {n o:Season}(hn:seasonOk n=true)(ho:seasonOk o=true)(hsk:n.skies.length=o.skies.length)(c:Nat)(hD:n.days.length+c=o.days.length)
 (hfol: ∀k:Nat,k<n.skies.length→ ∀y:Int,y∈o.follows.getD k []→y∈n.follows.getD k [])
 (hmay: ∀d k:Nat,d<n.days.length→k<n.skies.length→mayS n d k=true→mayS o d k=true∧dayLo n d≤dayLo o d):
 ∀(r:Nat) (sky:Int),r≤n.days.length→0≤sky→sky<(n.skies.length:Int)→worthS n r sky≤worthS o (r+c) sky
 |0,sky,_,h0,h1=>by
   have:=(worthS_range ho c sky (by omega) h0 (by omega)).1
   simpa [worthS]using this
 |r+1,sky,hr,h0,h1=>by
   obtain⟨hk2,_,hf⟩:=follows_ok ho (k:=sky.toNat) (by omega)
   have hfo:o.follows.getD sky.toNat []=o.follows[sky.toNat]:=by simp[List.getD,hk2]
   have hl:leastL (worthS n r) (n.follows.getD sky.toNat [])≤leastL (worthS o (r+c)) (o.follows.getD sky.toNat []):=
    leastL_mono fun x hx=>⟨hfol _ (by omega) x hx,worth_mono hn ho hsk c hD hfol hmay r x (by omega) (hf x (by rw[hfo]at hx;exact hx)).1 (by have:=(hf x (by rw[hfo]at hx;exact hx)).2;omega)⟩
   have hd:n.days.length-(r+1)=o.days.length-(r+1+c):=by omega
   have hm:=hmay (n.days.length-(r+1)) sky.toNat (by omega) (by omega)
   rw[show r+1+c=(r+c)+1 by omega,worthS,worthS,show o.days.length-(r+c+1)=n.days.length-(r+1)by omega]
   by_cases h:mayS n (n.days.length-(r+1)) sky.toNat=true
   ·obtain⟨a,b⟩:=hm h
    simp only[h,a,if_true]
    omega
   ·simp only[h,Bool.false_eq_true,if_false]
    split<;>omega
theorem Worse.of {n o:Season}(hn:seasonOk n=true)(ho:seasonOk o=true)(hsk:n.skies.length=o.skies.length)(c:Nat)(hD:n.days.length+c=o.days.length)
 (hfol: ∀k:Nat,k<n.skies.length→ ∀y:Int,y∈o.follows.getD k []→y∈n.follows.getD k []) (hfirst: ∀y:Int,y∈o.first→y∈n.first)
 (hmay: ∀d k:Nat,d<n.days.length→k<n.skies.length→mayS n d k=true→mayS o d k=true∧dayLo n d≤dayLo o d):Worse n o where
 skies:=hsk
 days:=by omega
 le:=fun day sky hd hk=>by
  have:=worth_mono hn ho hsk c hD hfol hmay (n.days.length-day) sky (by omega) (by omega) (by omega)
  rwa [show n.days.length-day+c=o.days.length-day by omega]at this
 best:=by
  have hf:=(first_ok hn).2
  refine leastL_mono fun x hx=>⟨hfirst x hx,?_⟩
  have:=worth_mono hn ho hsk c hD hfol hmay n.days.length x (Nat.le_refl _) (hf x (hfirst x hx)).1 (hf x (hfirst x hx)).2
  rwa [hD]at this
end Go.Proofs.YtoedpegjoccnlaaGreat.A

/-
  What makes a crew hold, and a net safe, still.
-/
namespace Go.Proofs.YtoedpegjoccnlaaGreat.A
open Go.Ab
@[simp] theorem take_set_len {α:Type}(l:List α)(i:Nat)(x:α):(l.set i x).take l.length=l.set i x:=List.take_of_length_le (by simp)
@[simp] theorem take_map_len {α β:Type}(f:α→β)(l:List α):(l.map f).take l.length=l.map f:=List.take_of_length_le (by simp)
theorem boatAt_ok {n:Sea}(hok:seaOk n=true)(b:Int):0≤(boatAt n b).pence:=by
 unfold boatAt
 by_cases h:b.toNat<n.boats.length
 ·have:=(seaOk_iff.1 hok).2.2.2.2.1 _ (List.getElem_mem h)
  simp only[boatOk,Bool.and_eq_true,within_iff]at this
  simp only[List.getD,List.getElem?_eq_getElem h,Option.getD_some];exact this.2.1
 ·simp only[List.getD,List.getElem?_eq_none (Nat.le_of_not_lt h),Option.getD_none]
  decide
theorem cost_ge {n:Sea}(hok:seaOk n=true)(c:List Int):0≤costS n c:=by
 have: ∀(c:List Int) (a:Int),0≤a→0≤c.foldl (fun a b=>a+(boatAt n b).pence) a:=by
  intro c
  induction c with
  |nil=>intro a h;exact h
  |cons x c ih=>intro a h;rw[List.foldl_cons];have:=boatAt_ok hok x;exact ih _ (by omega)
 exact this c 0 (by omega)
theorem cheap_none {n:Sea}(hok:seaOk n=true): ∀(l:List (List Int)) (a:Option (List Int)×Int),((l.foldl (cheapY n) a).2<0↔a.2<0∧ ∀c∈l,holdsS n c=false)
 |[],a=>by simp
 |c::l,a=>by
   have h0:=cost_ge hok c
   rw[List.foldl_cons,cheap_none hok l]
   cases h:holdsS n c
   ·simp[cheapY,h]
   ·by_cases h1:a.2<0∨costS n c<a.2
    ·simp[cheapY,h,h1];intro h;omega
    ·have: ¬a.2<0:=fun h=>h1 (.inl h)
     simp[cheapY,h,h1]
     exact fun hh=>absurd hh this
theorem cheap_iff {n:Sea}(hok:seaOk n=true):(cheapR n).2=0↔ ∃c∈crewsFrom n.boats.length n.places.length [],holdsS n c=true:=by
 have h:=cheap_none hok (crewsFrom n.boats.length n.places.length []) (none,-1)
 change ((cheapS n).2<0↔_)at h
 simp only[cheapR,hok,if_true]
 by_cases h1:(cheapS n).2<0
 ·simp only[h1,if_true]
  have h2:=(h.1 h1).2
  constructor
  ·intro h;omega
  ·rintro⟨c,hc,hh⟩;rw[h2 c hc]at hh;cases hh
 ·simp only[h1,if_false,true_iff]
  apply Classical.byContradiction
  intro hn
  refine h1 (h.2 ⟨by decide,fun c hc=> ?_⟩)
  cases hh:holdsS n c
  ·rfl
  ·exact absurd ⟨c,hc,hh⟩ hn
theorem cheap_mono {n m:Sea}(hn:seaOk n=true)(hm:seaOk m=true)(hp:m.places=n.places)(hb:m.boats.length=n.boats.length)(hc: ∀b:Int,(boatAt n b).carry≤(boatAt m b).carry)(hw:m.weight.hi≤n.weight.hi)(h:(cheapR n).2=0):(cheapR m).2=0:=by
 obtain⟨c,h1,h2⟩:=(cheap_iff hn).1 h
 refine(cheap_iff hm).2 ⟨c,by rw[hb,hp];exact h1,?_⟩
 simp only[holdsS,allB_iff]at h2⊢
 intro i hi
 have h3:=h2 i hi
 simp only[holdsAt,decide_eq_true_eq]at h3⊢
 have hpart:partS m i=partS n i:=by simp only[partS,hp]
 have hneed:needS m i≤needS n i:=by
  simp only[needS,hpart]
  have h0:=(part_bound hn i).2.2.1
  have:=Int.mul_le_mul_of_nonneg_right hw h0
  omega
 have:=hc (c.getD i 0)
 omega
theorem sea_day {n:Season}(hok:seasonOk n=true) {d:Nat}(hd:d<n.days.length):seaOk {n.sea with weight:=n.days[d]}=true:=by
 obtain⟨_,h2,_,_,_,_,_,_,h9⟩:=seasonOk_iff.1 hok
 have:=allB_iff.1 h9 _ (List.getElem_mem hd)
 simp only[seaOk,Bool.and_eq_true]at h2⊢
 simp only[this,h2,and_self]
theorem holdS_mono {n o:Season}(hn:seasonOk n=true)(ho:seasonOk o=true) {d:Nat}(hd:d<n.days.length)(hd2:d<o.days.length)(hp:o.sea.places=n.sea.places)(hb:o.sea.boats.length=n.sea.boats.length)
 (hc: ∀b:Int,(boatAt n.sea b).carry≤(boatAt o.sea b).carry) (hw:o.days[d].hi≤n.days[d].hi) (h:holdS n d=1):holdS o d=1:=by
 simp only[holdS,List.getElem?_eq_getElem hd,List.getElem?_eq_getElem hd2]at h⊢
 have h1:(cheapR {n.sea with weight:=n.days[d]}).2=0:=by
  apply Classical.byContradiction;intro hne;rw[if_neg hne]at h;cases h
 rw[if_pos (cheap_mono (sea_day hn hd) (sea_day ho hd2) hp hb hc hw h1)]
end Go.Proofs.YtoedpegjoccnlaaGreat.A

/-
  bits.OnesCount of a few bits.
-/
namespace Go.Proofs.YtoedpegjoccnlaaGreat.A
open Go.Ab
end Go.Proofs.YtoedpegjoccnlaaGreat.A

/-
  lifts: a crew; sailing.
-/
namespace Go.Proofs.YtoedpegjoccnlaaGreat.A
open Go.Ab
end Go.Proofs.YtoedpegjoccnlaaGreat.A

/-
  lifts.Safe.
-/
namespace Go.Proofs.YtoedpegjoccnlaaGreat.A
open Go.Ab
end Go.Proofs.YtoedpegjoccnlaaGreat.A

/-
  Crews by the reference; surer seas.
-/
namespace Go.Proofs.YtoedpegjoccnlaaGreat.A
open Go.Ab
end Go.Proofs.YtoedpegjoccnlaaGreat.A

/-
  Surer seas: what crews and costs are then.
-/
namespace Go.Proofs.YtoedpegjoccnlaaGreat.A
open Go.Ab
end Go.Proofs.YtoedpegjoccnlaaGreat.A

/-
  surer, withCatch.
-/
namespace Go.Proofs.YtoedpegjoccnlaaGreat.A
open Go.Ab
theorem mul40 {a p:Int}(h:0≤a∧a≤40)(hp:0≤p∧p≤50):0≤a*p∧a*p≤2000:=by
 have h1:=Int.mul_nonneg h.1 hp.1
 have h2:=Int.mul_le_mul_of_nonneg_right h.2 hp.1
 omega
end Go.Proofs.YtoedpegjoccnlaaGreat.A

/-
  Seasons whose days are known better: Best, Off.
-/
namespace Go.Proofs.YtoedpegjoccnlaaGreat.A
open Go.Ab
def daysS(n:Season)(D:List Sp):Season:= {n with days:=D}
theorem days_season {n:Season}(h:seasonOk n=true) {D:List Sp}(hl:D.length≤5)(hD: ∀x∈D,spanOk x 2000=true):seasonOk (daysS n D)=true:=by
 simp only[seasonOk,Bool.and_eq_true,decide_eq_true_eq,allB_iff]at h⊢
 obtain⟨⟨⟨⟨⟨⟨⟨h1,h2⟩,h3⟩,h4⟩,h5⟩,_⟩,h7⟩,_⟩:=h
 exact⟨⟨⟨⟨⟨⟨⟨h1,h2⟩,h3⟩,h4⟩,h5⟩,by show(D.length:Int)≤5;omega⟩,h7⟩,hD⟩
structure Sharp(D E:List Sp):Prop where
 len:D.length=E.length
 lo: ∀(i:Nat) (h1:i<D.length) (h2:i<E.length),E[i].lo≤D[i].lo
 hi: ∀(i:Nat) (h1:i<D.length) (h2:i<E.length),D[i].hi≤E[i].hi
theorem sharp_may {n:Season} {D E:List Sp}(hD:seasonOk (daysS n D)=true)(hE:seasonOk (daysS n E)=true)(h:Sharp D E) {d k:Nat}(hd:d<E.length)(hm:mayS (daysS n E) d k=true):mayS (daysS n D) d k=true∧dayLo (daysS n E) d≤dayLo (daysS n D) d:=by
 have hd2:d<D.length:=by rw[h.len];exact hd
 simp only[mayS,Bool.and_eq_true,decide_eq_true_eq]at hm⊢
 refine⟨⟨hm.1,holdS_mono (n:=daysS n E) (o:=daysS n D) hE hD hd hd2 rfl rfl (fun b=>Int.le_refl _) (h.hi d hd2 hd) hm.2⟩,?_⟩
 have e1:dayLo (daysS n E) d=E[d].lo:=by simp[dayLo,daysS,List.getD,hd]
 have e2:dayLo (daysS n D) d=D[d].lo:=by simp[dayLo,daysS,List.getD,hd2]
 rw[e1,e2]
 exact h.lo d hd2 hd
theorem sharp_best {n:Season} {D E:List Sp}(hD:seasonOk (daysS n D)=true)(hE:seasonOk (daysS n E)=true)(h:Sharp D E):bestS (daysS n E)≤bestS (daysS n D):=by
 have hl:(daysS n D).days.length=(daysS n E).days.length:=h.len
 unfold bestS
 rw[hl]
 refine leastL_mono fun x hx=>⟨hx,?_⟩
 obtain⟨_,hf⟩:=first_ok hE
 have hr:=hf x hx
 have:=worth_mono (n:=daysS n E) (o:=daysS n D) hE hD rfl 0 h.len.symm (fun _ _ _ hy=>hy) (fun d k hd _ hm=>sharp_may hD hE h hd hm) (daysS n E).days.length x (Nat.le_refl _) hr.1 hr.2
 simpa using this
theorem best_range {n:Season}(hok:seasonOk n=true):0≤bestS n∧bestS n≤2000:=by
 obtain⟨_,hf⟩:=first_ok hok
 refine⟨leastL_ge' _ _ (by decide) fun x hx=> ?_,leastL_le0 _ _ 2000⟩
 have hr:=hf x hx
 exact(worthS_range hok n.days.length x (Nat.le_refl _) hr.1 hr.2).1
theorem first_may_le {n:Season} {D E:List Sp}(hD:seasonOk (daysS n D)=true)(hE:seasonOk (daysS n E)=true)(h:Sharp D E): ∀(c:List Int) (k j:Nat),k+c.length≤E.length→firstMay (daysS n E) k c=some j→ ∃j',firstMay (daysS n D) k c=some j'∧j'≤j
 |[],k,j,_,hf=>by simp[firstMay]at hf
 |x::c,k,j,hl,hf=>by
   simp only[List.length_cons]at hl
   simp only[firstMay]at hf⊢
   by_cases h1:mayS (daysS n D) k x.toNat=true
   ·rw[if_pos h1]
    refine⟨k,rfl,?_⟩
    by_cases h2:mayS (daysS n E) k x.toNat=true
    ·rw[if_pos h2]at hf
     simp only[Option.some.injEq]at hf
     omega
    ·rw[if_neg h2]at hf
     have:=(firstMay_lt (daysS n E) c (k+1) j hf).1
     omega
   ·rw[if_neg h1]
    by_cases h2:mayS (daysS n E) k x.toNat=true
    ·exact absurd (sharp_may hD hE h (by omega) h2).1 h1
    ·rw[if_neg h2]at hf
     exact first_may_le hD hE h c (k+1) j (by omega) hf
theorem courses_days(n:Season)(D:List Sp): ∀(r:Nat) (c nx:List Int),coursesFrom (daysS n D) r c nx=coursesFrom n r c nx
 |0,_,_=>rfl
 |r+1,c,nx=>by
   simp only[coursesFrom]
   congr 1
   funext x
   exact courses_days n D r _ _
theorem courses_len(n:Season): ∀(r:Nat) (c nx:List Int),∀x∈coursesFrom n r c nx,x.length=c.length+r
 |0,c,nx,x,hx=>by simp[coursesFrom]at hx;rw[hx];rfl
 |r+1,c,nx,x,hx=>by
   simp only[coursesFrom,List.mem_flatMap]at hx
   obtain⟨y,_,hy⟩:=hx
   have:=courses_len n r _ _ x hy
   rw[this];simp;omega
theorem off_fold {n:Season} {D E:List Sp}(hD:seasonOk (daysS n D)=true)(hE:seasonOk (daysS n E)=true)(h:Sharp D E): ∀(l:List (List Int)) (a b:(Int×Int)×Bool),(∀c∈l,c.length=E.length)→b.1.1≤a.1.1→b.1.2≤a.1.2→(foldB (offY (daysS n E)) l a).2=true→
 (foldB (offY (daysS n D)) l b).2=true∧(foldB (offY (daysS n D)) l b).1.1.1≤(foldB (offY (daysS n E)) l a).1.1.1∧(foldB (offY (daysS n D)) l b).1.1.2≤(foldB (offY (daysS n E)) l a).1.1.2
 |[],a,b,_,h1,h2,_=>⟨rfl,h1,h2⟩
 |c::l,a,b,hl,h1,h2,hb=>by
   have hc:=hl c (by simp)
   cases e:firstMay (daysS n E) 0 c with
   |none=>
     have e1:offY (daysS n E) a c=((a.1,true),false):=by simp only[offY,e]
     simp[foldB,e1]at hb
   |some j=>
     obtain⟨j',e',hj⟩:=first_may_le hD hE h c 0 j (by omega) e
     have e1:offY (daysS n E) a c=(((min a.1.1 j,max a.1.2 j),a.2),true):=by simp only[offY,e]
     have e2:offY (daysS n D) b c=(((min b.1.1 j',max b.1.2 j'),b.2),true):=by simp only[offY,e']
     simp only[foldB,e1,e2,if_true]at hb⊢
     exact off_fold hD hE h l _ _ (fun x hx=>hl x (by simp[hx])) (by simp only;omega) (by simp only;omega) hb
theorem sharp_off {n:Season} {D E:List Sp}(hD:seasonOk (daysS n D)=true)(hE:seasonOk (daysS n E)=true)(h:Sharp D E):(offR (daysS n E)).2=0→(offR (daysS n D)).2=0∧(offR (daysS n D)).1.1≤(offR (daysS n E)).1.1∧(offR (daysS n D)).1.2≤(offR (daysS n E)).1.2:=by
 unfold offR
 rw[if_pos hD,if_pos hE]
 by_cases hb:(offQ (daysS n E)).2=true
 ·rw[if_pos hb]
  intro _
  unfold offQ at hb⊢
  have el:(daysS n D).days.length=(daysS n E).days.length:=h.len
  rw[el,courses_days,courses_days]at*
  have:=off_fold hD hE h _ ((((daysS n E).days.length:Int),-1),false) ((((daysS n E).days.length:Int),-1),false) (fun c hc=>by have:=courses_len n _ _ _ c hc;simpa [daysS]using this) (Int.le_refl _) (Int.le_refl _) hb
  obtain⟨q1,q2,q3⟩:=this
  have e1:(daysS n D).first=(daysS n E).first:=rfl
  rw[e1,if_pos q1]
  exact⟨rfl,q2,q3⟩
 ·rw[if_neg hb]
  intro hf
  exact absurd hf (by decide)
theorem off_err {n:Season}(hok:seasonOk n=true):(offR n).2=0∨(offR n).2=3:=by
 unfold offR
 rw[if_pos hok]
 split<;>simp
end Go.Proofs.YtoedpegjoccnlaaGreat.A

/-
  TopWaited: the days; brings; the examples.
-/
namespace Go.Proofs.YtoedpegjoccnlaaGreat
open Go.Ab
theorem fishC_at {t:CTrap}(ht:trapB t=true)(hone:isOneB t=true) {i c:Nat}(hi:i<t.T)(hc:c<t.C):fishC t i c=(difR t i c i (c+1),0):=by
 have e1:t.T=t.times.toNat:=rfl
 have e2:t.C=t.chambers.toNat:=rfl
 have hp:placeB t i c=true:=by
  unfold placeB
  rw[wiB_iff.2 (by omega),wiB_iff.2 (by omega)];rfl
 unfold fishC
 rw[openT_of ht,hp,if_pos rfl,if_pos hone,if_pos rfl]
 simp only[Int.toNat_natCast]
def lastC(t:CTrap)(i:Nat):CSp:=difR t i (t.C-1) i (t.C-1+1)
theorem lastC_range {t:CTrap}(h:TrapOk t)(hone:isOneB t=true) {i:Nat}(hi:i<t.T):0≤(lastC t i).lo∧(lastC t i).lo≤(lastC t i).hi∧(lastC t i).hi≤40:=by
 have hcc:=h.cc
 have e2:t.C=t.chambers.toNat:=rfl
 have hC:t.C-1<t.C:=by omega
 have d:=difR_spec (c:=t.C-1) (d:=t.C-1+1) h ((isOne_iff h).1 hone) hi (Nat.le_of_lt hC) hi hC
 unfold lastC
 obtain⟨x,hx,ex⟩:=d.lo
 obtain⟨y,hy,ey⟩:=d.hi
 have k1:=hx.down i (t.C-1) hi hC
 have k2:=(hy.range hi (t.C-1) (Nat.le_of_lt hC)).2
 have k3:=(hy.range hi (t.C-(t.C-1+1)) (by omega)).1
 rw[show t.C-(t.C-(t.C-1+1))=t.C-1+1 by omega]at k3
 have q:=d.le
 exact⟨by omega,by omega,by omega⟩
def toldD(t:CTrap)(p:Int):List Sp:=(List.range t.T).map fun i=>⟨(lastC t i).lo*p,(lastC t i).hi*p⟩
theorem ex1_dif:difR exT1 2 1 2 2=⟨4,10⟩:=by decide +kernel
set_option maxHeartbeats 4000000 in
theorem e_waited(lab s):den T 24 [] lab s=some (.bool true,s):=by
 have h1:=fun lab s=>e_Example01 lab s
 have h2:=fun lab s=>e_Fish exT1 (trapB_copy exT1_ok).short exT1_ok 2 1 lab s
 have e2:fishC exT1 2 1=(⟨4,10⟩,0):=by
  have:=fishC_at exT1_ok exT1_one (i:=2) (c:=1) (by decide) (by decide)
  rw[show((2:Nat):Int)=2 from rfl,show((1:Nat):Int)=1 from rfl,ex1_dif]at this
  exact this
 rw[e2]at h2
 have h3:=fun lab s=>A.e_Example13 lab s
 have h4:=fun lab s=>A.x_Best lab s
 simp only[A.season0]at h3 h4
 clear e2
 generalize exQ1=Q at*
 generalize exT1=X at*
 generalize A.exSeason=Y at*
 rw[den_fn t24 _ _ _ rfl]
 simp only[b24]
 simp (maxSteps:=6000000) (disch:=first|omega|assumption|decide +kernel|(simp;done)|(simp;omega)|fail) [run_drawnK,orSlow_none,h1,h2,h3,h4,eqCells]
set_option maxHeartbeats 4000000 in
theorem e_bringsW(n:A.Season)(hs:A.Short n)(hok:A.seasonOk n=true)(lab s):den T 27 [.agg (A.season0 n)] lab s=some (i64 (A.bestS n),s):=by
 have h1:=fun lab s=>A.e_Best n.net.wind.lo n.net.wind.hi n.net.cur.lo n.net.cur.hi n.net.grips n.net.anch n.net.walls n.sea.weight.lo n.sea.weight.hi n.sea.places n.sea.boats n.skies n.follows n.first n.days hs lab s
 change∀lab s,den T _ [.agg (A.season0 n)] lab s=some (.tup [i64 (A.bestR n).1,i64 (A.bestR n).2],s)at h1
 have e:A.bestR n=(A.bestS n,0):=by unfold A.bestR;rw[if_pos hok]
 rw[e]at h1
 obtain⟨r1,r2⟩:=A.best_range hok
 have r1': ¬A.bestS n<0:=by omega
 have r2': ¬2000<A.bestS n:=by omega
 clear e r1 r2
 generalize A.bestS n=w at*
 simp only[A.season0]at h1⊢
 rw[den_fn t27 _ _ _ rfl]
 simp only[b27]
 simp (maxSteps:=1000000) (disch:=first|omega|assumption|decide +kernel|(simp;done)|(simp;omega)|fail) [run_drawnK,orSlow_none,h1,r1',r2']
theorem e_Far01(t:CTrap)(hs:ShortT t)(lab s):den T 20 [.agg (vT t)] lab s=some (.bool (hugeT t||((decide (3<t.chambers)||decide (3<t.times))&&trapB t)),s):=by
 have h1:=fun lab s=>e_Huge01 t hs lab s
 have h2:=fun lab s=>e_Check01 t hs lab s
 cases c:hugeT t
 ·rw[den_fn t20 _ _ _ rfl]
  simp only[b20]
  by_cases q1:3<t.chambers
  ·cases q:trapB t<;>simp (maxSteps:=1000000) (disch:=first|omega|assumption|decide +kernel|(simp;done)|(simp;omega)|fail) [h1,h2,c,q1,q]
  ·by_cases q2:3<t.times
   ·cases q:trapB t<;>simp (maxSteps:=1000000) (disch:=first|omega|assumption|decide +kernel|(simp;done)|(simp;omega)|fail) [h1,h2,c,q1,q2,q]
   ·simp (maxSteps:=1000000) (disch:=first|omega|assumption|decide +kernel|(simp;done)|(simp;omega)|fail) [h1,h2,c,q1,q2]
 ·rw[den_fn t20 _ _ _ rfl]
  simp only[b20]
  simp (maxSteps:=1000000) (disch:=first|omega|assumption|decide +kernel|(simp;done)|(simp;omega)|fail) [h1,c]
end Go.Proofs.YtoedpegjoccnlaaGreat

/-
  Doors, the reference: worth.
-/
import Derived.Test.YtbcjofkfgpbhmaaEq3
import Derived.Test.YtbcjofkfgpbhmaaEq1
set_option linter.unusedSimpArgs false
set_option linter.unusedVariables false
namespace Go.Proofs.Ytbcjofkfgpbhmaa
open Go.Ab
theorem leastV_changed(t:DTrap)(c:List Int)(k:Nat):leastV (changedT t c) k=leastT t k c:=by
 unfold leastV leastT leastS
 have e:movesS (waysL (changedT t c))=movesT t c:=rfl
 rw[e]
 congr 1
 exact List.map_congr_left fun m hm=>worth_behind hm k
theorem firstV_changed(t:DTrap)(c:List Int):firstV (changedT t c) (t.turns.toNat-1)=replyS t c:=by
 unfold firstV replyS
 have e:movesS (waysL (changedT t c))=movesT t c:=rfl
 rw[e,leastV_changed]
 congr 1
 have: ∀l:List (List Int),(∀m∈l,m∈movesT t c)→l.find? (fun m=>decide (worthT (movedT (changedT t c) m) (t.turns.toNat-1)=leastT t (t.turns.toNat-1) c))=l.find? fun m=>decide (worthS t.chambers.toNat t.hands.toNat (fishL t) (t.turns.toNat-1) (flipG t.gates c) m=leastT t (t.turns.toNat-1) c):=by
  intro l
  induction l with
  |nil=>intro _;rfl
  |cons x r ih=>
    intro hh
    have hx:=worth_behind (hh x (by simp)) (t.turns.toNat-1)
    simp only[behindT]at hx
    simp only[List.find?_cons,hx,ih fun m hm=>hh m (by simp[hm])]
 exact this _ fun m hm=>hm
theorem worthT_succ(t:DTrap)(k:Nat):worthT t (k+1)=((choicesS t.hands.toNat t.gates.length).map fun c=>leastV (changedT t c) k).foldl max 0:=by
 rw[maxL_fold _ _ (by omega),Int.max_eq_right (maxL_nonneg _)]
 unfold worthT
 rw[worthS_succ]
 congr 1
 exact List.map_congr_left fun c _=>(leastV_changed t c k).symm
noncomputable def refK(t0:DTrap):Nat→DTrap→MemR t0→MemR t0
 |0,_,K=>K
 |k+1,t,K=>if (kvGet K.1 [codeT t]).isSome=true then K else((choicesS t.hands.toNat t.gates.length).foldl (fun K c=>leastK t0 (refK t0 k) (changedT t c) K) K).put [codeT t]
theorem fold_pairC {σ τ:Type}(f:σ→List Int→σ)(g:τ→List Int→τ): ∀(l:List (List Int)) (a:σ) (b:τ),l.foldl (fun(p:σ×τ) x=>(f p.1 x,g p.2 x)) (a,b)=(l.foldl f a,l.foldl g b)
 |[],_,_=>rfl
 |x::l,a,b=>by simp only[List.foldl_cons,fold_pairC f g l]
def worthOps:List AOper:=[⟨some 37, .load (some 5) (.t 2),none,[],[]⟩,⟨some 38, .mv (.t 9),none,[],[]⟩,⟨some 39, .mv (.t 10),none,[],[]⟩,⟨some 40, .idxs 1 (.t 38) (.t 39),none,[1,2],[]⟩,⟨some 41, .load none (.t 40),none,[3,1,2],[]⟩,⟨some 42, .call 24 [(.t 37),(.t 41)],none,[0,4,3,1,2],[]⟩,⟨some 43, .mv (.t 1),none,[],[]⟩,⟨some 44, .call 75 [(.t 42),(.t 43)],none,[6,5,0,4,3,1,2],[999999]⟩,⟨some 36, .mv (.t 44),none,[7,6,5,0,4,3,1,2],[]⟩,⟨some 45, .ext (.t 36) 0,none,[8,7,6,5,0,4,3,1,2],[]⟩,⟨some 46, .ext (.t 36) 1,none,[8,7,6,5,0,4,3,1,2],[]⟩,⟨some 11, .mv (.t 45),none,[9,8,7,6,5,0,4,3,1,2],[]⟩,⟨some 12, .mv (.t 46),none,[10,11,9,8,7,6,5,0,4,3,1,2],[]⟩]
theorem worthOps_pre: ∀(i:Nat) o,worthOps[i]? =some o→ ∀p∈o.pre,p<i:=by
 intro i o h
 match i with
 |0|1|2|3|4|5|6|7|8|9|10|11|12=>simp[worthOps]at h;subst h;simp
 |i+13=>simp[worthOps]at h
structure WorthI(t u:DTrap)(LC:List (List Int))(j:Nat)(c1 fv:List Int)(w:Int)(dm lm:Nat)(x2 x5 x8:V)(done:List Nat)(e:Env):Prop where
 g1:e.get 1= .mp (.ptr dm lm 0)
 g2:e.get 2=x2
 g5:e.get 5=x5
 g8:e.get 8=x8
 g9:e.get 9= .sl .no 1 (es cInts LC)
 g10:e.get 10=i64 (j:Nat)
 h0:0∈done→e.get 37= .agg (dV t)
 h1:1∈done→e.get 38= .sl .no 1 (es cInts LC)
 h2:2∈done→e.get 39=i64 (j:Nat)
 h3:3∈done→e.get 40= .ep [.sl .no 1 (es cInt c1)]
 h4:4∈done→e.get 41= .sl .no 1 (es cInt c1)
 h5:5∈done→e.get 42= .agg (dV u)
 h6:6∈done→e.get 43= .mp (.ptr dm lm 0)
 h7:7∈done→e.get 44= .tup [i64 w, .sl .no 1 (es cInt fv)]
 h8:8∈done→e.get 36= .tup [i64 w, .sl .no 1 (es cInt fv)]
 h9:9∈done→e.get 45=i64 w
 h10:10∈done→e.get 46= .sl .no 1 (es cInt fv)
 h11:11∈done→e.get 11=i64 w
 h12:12∈done→e.get 12= .sl .no 1 (es cInt fv)
 c75:7∈done→5∈done
set_option maxHeartbeats 8000000 in
theorem worth_region {dm lm L:Nat} {S:List (List Int×Int)→Stk}(G:MapD dm lm L S)(t u:DTrap)(LC:List (List Int))(j:Nat)(hj:j<LC.length)(c1 fv:List Int)(hc1:LC[j]=c1)(w:Int)(x5 x8:V)(K2 K3:List (List Int×Int))
 (hcg: ∀lab s,den T 24 [.agg (dV t), .sl .no 1 (es cInt c1)] lab s=some (.agg (dV u),s)) (hls: ∀lab,den T 75 [.agg (dV u), .mp (.ptr dm lm 0)] lab ([(32, .cell (dV t))]::S K2)=some (.tup [i64 w, .sl .no 1 (es cInt fv)],[(32, .cell (dV t))]::S K3)):
 runAny T (Run T) worthOps [1,2,5,8,9,10,11] worthOps [] [(1, .mp (.ptr dm lm 0)),(2, .ptr L 32 0),(5,x5),(8,x8),(9, .sl .no 1 (es cInts LC)),(10,i64 (j:Nat)),(33, .bool true)] ([(32, .cell (dV t))]::S K2)=
  some ([(1, .mp (.ptr dm lm 0)),(2, .ptr L 32 0),(5,x5),(8,x8),(9, .sl .no 1 (es cInts LC)),(10,i64 (j:Nat)),(11,i64 w)],[(32, .cell (dV t))]::S K3):=by
 have hL:=G.len
 have hj2:(j:Int)<LC.length:=by omega
 have f32: ∀K,sget ([(32, .cell (dV t))]::S K) L 32=some (.cell (dV t)):=fun K=>by rw[←hL K,sget_top];rfl
 refine runAny_start (fun done e s=>WorthI t u LC j c1 fv w dm lm (.ptr L 32 0) x5 x8 done e∧s=[(32, .cell (dV t))]::S (if 7∈done then K3 else K2)) _ ?_ ?_ ?_
 ·exact⟨⟨rfl,rfl,rfl,rfl,rfl,rfl,by simp,by simp,by simp,by simp,by simp,by simp,by simp,by simp,by simp,by simp,by simp,by simp,by simp,by simp⟩,by simp⟩
 ·intro done e s ⟨h,hs⟩ hr
  have hall:=ready_all hr worthOps_pre
  simp[Env.only,h.g1,h.g2,h.g5,h.g8,h.g9,h.g10,h.h11 (hall 11 (by simp[worthOps])),hs,hall 7 (by simp[worthOps])]
 ·intro done e s i o ⟨h,hs⟩ ho hn hp
  match i with
  |0=>
    simp[worthOps]at ho;subst ho
    have hl:sget s L 32=some (.cell (dV t)):=by rw[hs];exact f32 _
    refine⟨(37, .agg (dV t))::e,s,by simp[h.g2,hl],⟨⟨by simp[h.g1],by simp[h.g2],by simp[h.g5],by simp[h.g8],by simp[h.g9],by simp[h.g10],fun _=>by simp,fun hm=>by have:=h.h1 (by simpa using hm);simpa using this,fun hm=>by have:=h.h2 (by simpa using hm);simpa using this,fun hm=>by have:=h.h3 (by simpa using hm);simpa using this,fun hm=>by have:=h.h4 (by simpa using hm);simpa using this,fun hm=>by have:=h.h5 (by simpa using hm);simpa using this,fun hm=>by have:=h.h6 (by simpa using hm);simpa using this,fun hm=>by have:=h.h7 (by simpa using hm);simpa using this,fun hm=>by have:=h.h8 (by simpa using hm);simpa using this,fun hm=>by have:=h.h9 (by simpa using hm);simpa using this,fun hm=>by have:=h.h10 (by simpa using hm);simpa using this,fun hm=>by have:=h.h11 (by simpa using hm);simpa using this,fun hm=>by have:=h.h12 (by simpa using hm);simpa using this,fun hm=>by have:=h.c75 (by simpa using hm);simp[this]⟩,by simpa using hs⟩⟩
  |1=>
    simp[worthOps]at ho;subst ho
    refine⟨(38, .sl .no 1 (es cInts LC))::e,s,by simp[h.g9],⟨⟨by simp[h.g1],by simp[h.g2],by simp[h.g5],by simp[h.g8],by simp[h.g9],by simp[h.g10],fun hm=>by have:=h.h0 (by simpa using hm);simpa using this,fun _=>by simp,fun hm=>by have:=h.h2 (by simpa using hm);simpa using this,fun hm=>by have:=h.h3 (by simpa using hm);simpa using this,fun hm=>by have:=h.h4 (by simpa using hm);simpa using this,fun hm=>by have:=h.h5 (by simpa using hm);simpa using this,fun hm=>by have:=h.h6 (by simpa using hm);simpa using this,fun hm=>by have:=h.h7 (by simpa using hm);simpa using this,fun hm=>by have:=h.h8 (by simpa using hm);simpa using this,fun hm=>by have:=h.h9 (by simpa using hm);simpa using this,fun hm=>by have:=h.h10 (by simpa using hm);simpa using this,fun hm=>by have:=h.h11 (by simpa using hm);simpa using this,fun hm=>by have:=h.h12 (by simpa using hm);simpa using this,fun hm=>by have:=h.c75 (by simpa using hm);simp[this]⟩,by simpa using hs⟩⟩
  |2=>
    simp[worthOps]at ho;subst ho
    refine⟨(39,i64 (j:Nat))::e,s,by simp[h.g10],⟨⟨by simp[h.g1],by simp[h.g2],by simp[h.g5],by simp[h.g8],by simp[h.g9],by simp[h.g10],fun hm=>by have:=h.h0 (by simpa using hm);simpa using this,fun hm=>by have:=h.h1 (by simpa using hm);simpa using this,fun _=>by simp,fun hm=>by have:=h.h3 (by simpa using hm);simpa using this,fun hm=>by have:=h.h4 (by simpa using hm);simpa using this,fun hm=>by have:=h.h5 (by simpa using hm);simpa using this,fun hm=>by have:=h.h6 (by simpa using hm);simpa using this,fun hm=>by have:=h.h7 (by simpa using hm);simpa using this,fun hm=>by have:=h.h8 (by simpa using hm);simpa using this,fun hm=>by have:=h.h9 (by simpa using hm);simpa using this,fun hm=>by have:=h.h10 (by simpa using hm);simpa using this,fun hm=>by have:=h.h11 (by simpa using hm);simpa using this,fun hm=>by have:=h.h12 (by simpa using hm);simpa using this,fun hm=>by have:=h.c75 (by simpa using hm);simp[this]⟩,by simpa using hs⟩⟩
  |3=>
    simp[worthOps]at ho;subst ho
    have m1:=hp 1 (by simp)
    have m2:=hp 2 (by simp)
    refine⟨(40, .ep [.sl .no 1 (es cInt c1)])::e,s,by simp[h.h1 m1,h.h2 m2,hj,hj2,hc1],⟨⟨by simp[h.g1],by simp[h.g2],by simp[h.g5],by simp[h.g8],by simp[h.g9],by simp[h.g10],fun hm=>by have:=h.h0 (by simpa using hm);simpa using this,fun hm=>by have:=h.h1 (by simpa using hm);simpa using this,fun hm=>by have:=h.h2 (by simpa using hm);simpa using this,fun _=>by simp,fun hm=>by have:=h.h4 (by simpa using hm);simpa using this,fun hm=>by have:=h.h5 (by simpa using hm);simpa using this,fun hm=>by have:=h.h6 (by simpa using hm);simpa using this,fun hm=>by have:=h.h7 (by simpa using hm);simpa using this,fun hm=>by have:=h.h8 (by simpa using hm);simpa using this,fun hm=>by have:=h.h9 (by simpa using hm);simpa using this,fun hm=>by have:=h.h10 (by simpa using hm);simpa using this,fun hm=>by have:=h.h11 (by simpa using hm);simpa using this,fun hm=>by have:=h.h12 (by simpa using hm);simpa using this,fun hm=>by have:=h.c75 (by simpa using hm);simp[this]⟩,by simpa using hs⟩⟩
  |4=>
    simp[worthOps]at ho;subst ho
    have m1:=hp 1 (by simp)
    have m2:=hp 2 (by simp)
    have m3:=hp 3 (by simp)
    refine⟨(41, .sl .no 1 (es cInt c1))::e,s,by simp[h.h3 m3],⟨⟨by simp[h.g1],by simp[h.g2],by simp[h.g5],by simp[h.g8],by simp[h.g9],by simp[h.g10],fun hm=>by have:=h.h0 (by simpa using hm);simpa using this,fun hm=>by have:=h.h1 (by simpa using hm);simpa using this,fun hm=>by have:=h.h2 (by simpa using hm);simpa using this,fun hm=>by have:=h.h3 (by simpa using hm);simpa using this,fun _=>by simp,fun hm=>by have:=h.h5 (by simpa using hm);simpa using this,fun hm=>by have:=h.h6 (by simpa using hm);simpa using this,fun hm=>by have:=h.h7 (by simpa using hm);simpa using this,fun hm=>by have:=h.h8 (by simpa using hm);simpa using this,fun hm=>by have:=h.h9 (by simpa using hm);simpa using this,fun hm=>by have:=h.h10 (by simpa using hm);simpa using this,fun hm=>by have:=h.h11 (by simpa using hm);simpa using this,fun hm=>by have:=h.h12 (by simpa using hm);simpa using this,fun hm=>by have:=h.c75 (by simpa using hm);simp[this]⟩,by simpa using hs⟩⟩
  |5=>
    simp[worthOps]at ho;subst ho
    have m0:=hp 0 (by simp)
    have m1:=hp 1 (by simp)
    have m2:=hp 2 (by simp)
    have m3:=hp 3 (by simp)
    have m4:=hp 4 (by simp)
    have n7:7∉done:=fun h7=>hn (h.c75 h7)
    have hcg2:=hcg
    simp only[dV]at hcg2
    refine⟨(42, .agg (dV u))::e,s,by simp[h.h0 m0,h.h4 m4,hcg2],⟨⟨by simp[h.g1],by simp[h.g2],by simp[h.g5],by simp[h.g8],by simp[h.g9],by simp[h.g10],fun hm=>by have:=h.h0 (by simpa using hm);simpa using this,fun hm=>by have:=h.h1 (by simpa using hm);simpa using this,fun hm=>by have:=h.h2 (by simpa using hm);simpa using this,fun hm=>by have:=h.h3 (by simpa using hm);simpa using this,fun hm=>by have:=h.h4 (by simpa using hm);simpa using this,fun _=>by simp,fun hm=>by have:=h.h6 (by simpa using hm);simpa using this,fun hm=>by have:=h.h7 (by simpa using hm);simpa using this,fun hm=>by have:=h.h8 (by simpa using hm);simpa using this,fun hm=>by have:=h.h9 (by simpa using hm);simpa using this,fun hm=>by have:=h.h10 (by simpa using hm);simpa using this,fun hm=>by have:=h.h11 (by simpa using hm);simpa using this,fun hm=>by have:=h.h12 (by simpa using hm);simpa using this,fun hm=>by have:=h.c75 (by simpa using hm);simp[this]⟩,by simpa using hs⟩⟩
  |6=>
    simp[worthOps]at ho;subst ho
    refine⟨(43, .mp (.ptr dm lm 0))::e,s,by simp[h.g1],⟨⟨by simp[h.g1],by simp[h.g2],by simp[h.g5],by simp[h.g8],by simp[h.g9],by simp[h.g10],fun hm=>by have:=h.h0 (by simpa using hm);simpa using this,fun hm=>by have:=h.h1 (by simpa using hm);simpa using this,fun hm=>by have:=h.h2 (by simpa using hm);simpa using this,fun hm=>by have:=h.h3 (by simpa using hm);simpa using this,fun hm=>by have:=h.h4 (by simpa using hm);simpa using this,fun hm=>by have:=h.h5 (by simpa using hm);simpa using this,fun _=>by simp,fun hm=>by have:=h.h7 (by simpa using hm);simpa using this,fun hm=>by have:=h.h8 (by simpa using hm);simpa using this,fun hm=>by have:=h.h9 (by simpa using hm);simpa using this,fun hm=>by have:=h.h10 (by simpa using hm);simpa using this,fun hm=>by have:=h.h11 (by simpa using hm);simpa using this,fun hm=>by have:=h.h12 (by simpa using hm);simpa using this,fun hm=>by have:=h.c75 (by simpa using hm);simp[this]⟩,by simpa using hs⟩⟩
  |7=>
    simp[worthOps]at ho;subst ho
    have m0:=hp 0 (by simp)
    have m1:=hp 1 (by simp)
    have m2:=hp 2 (by simp)
    have m3:=hp 3 (by simp)
    have m4:=hp 4 (by simp)
    have m5:=hp 5 (by simp)
    have m6:=hp 6 (by simp)
    rw[if_neg hn]at hs
    subst hs
    have hls2:=hls
    simp only[dV]at hls2
    refine⟨(44, .tup [i64 w, .sl .no 1 (es cInt fv)])::e,[(32, .cell (dV t))]::S K3,by simp[h.h5 m5,h.h6 m6,hls2],⟨⟨by simp[h.g1],by simp[h.g2],by simp[h.g5],by simp[h.g8],by simp[h.g9],by simp[h.g10],fun hm=>by have:=h.h0 (by simpa using hm);simpa using this,fun hm=>by have:=h.h1 (by simpa using hm);simpa using this,fun hm=>by have:=h.h2 (by simpa using hm);simpa using this,fun hm=>by have:=h.h3 (by simpa using hm);simpa using this,fun hm=>by have:=h.h4 (by simpa using hm);simpa using this,fun hm=>by have:=h.h5 (by simpa using hm);simpa using this,fun hm=>by have:=h.h6 (by simpa using hm);simpa using this,fun _=>by simp,fun hm=>by have:=h.h8 (by simpa using hm);simpa using this,fun hm=>by have:=h.h9 (by simpa using hm);simpa using this,fun hm=>by have:=h.h10 (by simpa using hm);simpa using this,fun hm=>by have:=h.h11 (by simpa using hm);simpa using this,fun hm=>by have:=h.h12 (by simpa using hm);simpa using this,fun hm=>by simp[m5]⟩,by simp⟩⟩
  |8=>
    simp[worthOps]at ho;subst ho
    have m0:=hp 0 (by simp)
    have m1:=hp 1 (by simp)
    have m2:=hp 2 (by simp)
    have m3:=hp 3 (by simp)
    have m4:=hp 4 (by simp)
    have m5:=hp 5 (by simp)
    have m6:=hp 6 (by simp)
    have m7:=hp 7 (by simp)
    refine⟨(36, .tup [i64 w, .sl .no 1 (es cInt fv)])::e,s,by simp[h.h7 m7],⟨⟨by simp[h.g1],by simp[h.g2],by simp[h.g5],by simp[h.g8],by simp[h.g9],by simp[h.g10],fun hm=>by have:=h.h0 (by simpa using hm);simpa using this,fun hm=>by have:=h.h1 (by simpa using hm);simpa using this,fun hm=>by have:=h.h2 (by simpa using hm);simpa using this,fun hm=>by have:=h.h3 (by simpa using hm);simpa using this,fun hm=>by have:=h.h4 (by simpa using hm);simpa using this,fun hm=>by have:=h.h5 (by simpa using hm);simpa using this,fun hm=>by have:=h.h6 (by simpa using hm);simpa using this,fun hm=>by have:=h.h7 (by simpa using hm);simpa using this,fun _=>by simp,fun hm=>by have:=h.h9 (by simpa using hm);simpa using this,fun hm=>by have:=h.h10 (by simpa using hm);simpa using this,fun hm=>by have:=h.h11 (by simpa using hm);simpa using this,fun hm=>by have:=h.h12 (by simpa using hm);simpa using this,fun hm=>by have:=h.c75 (by simpa using hm);simp[this]⟩,by simpa using hs⟩⟩
  |9=>
    simp[worthOps]at ho;subst ho
    have m0:=hp 0 (by simp)
    have m1:=hp 1 (by simp)
    have m2:=hp 2 (by simp)
    have m3:=hp 3 (by simp)
    have m4:=hp 4 (by simp)
    have m5:=hp 5 (by simp)
    have m6:=hp 6 (by simp)
    have m7:=hp 7 (by simp)
    have m8:=hp 8 (by simp)
    refine⟨(45,i64 w)::e,s,by simp[h.h8 m8],⟨⟨by simp[h.g1],by simp[h.g2],by simp[h.g5],by simp[h.g8],by simp[h.g9],by simp[h.g10],fun hm=>by have:=h.h0 (by simpa using hm);simpa using this,fun hm=>by have:=h.h1 (by simpa using hm);simpa using this,fun hm=>by have:=h.h2 (by simpa using hm);simpa using this,fun hm=>by have:=h.h3 (by simpa using hm);simpa using this,fun hm=>by have:=h.h4 (by simpa using hm);simpa using this,fun hm=>by have:=h.h5 (by simpa using hm);simpa using this,fun hm=>by have:=h.h6 (by simpa using hm);simpa using this,fun hm=>by have:=h.h7 (by simpa using hm);simpa using this,fun hm=>by have:=h.h8 (by simpa using hm);simpa using this,fun _=>by simp,fun hm=>by have:=h.h10 (by simpa using hm);simpa using this,fun hm=>by have:=h.h11 (by simpa using hm);simpa using this,fun hm=>by have:=h.h12 (by simpa using hm);simpa using this,fun hm=>by have:=h.c75 (by simpa using hm);simp[this]⟩,by simpa using hs⟩⟩
  |10=>
    simp[worthOps]at ho;subst ho
    have m0:=hp 0 (by simp)
    have m1:=hp 1 (by simp)
    have m2:=hp 2 (by simp)
    have m3:=hp 3 (by simp)
    have m4:=hp 4 (by simp)
    have m5:=hp 5 (by simp)
    have m6:=hp 6 (by simp)
    have m7:=hp 7 (by simp)
    have m8:=hp 8 (by simp)
    refine⟨(46, .sl .no 1 (es cInt fv))::e,s,by simp[h.h8 m8],⟨⟨by simp[h.g1],by simp[h.g2],by simp[h.g5],by simp[h.g8],by simp[h.g9],by simp[h.g10],fun hm=>by have:=h.h0 (by simpa using hm);simpa using this,fun hm=>by have:=h.h1 (by simpa using hm);simpa using this,fun hm=>by have:=h.h2 (by simpa using hm);simpa using this,fun hm=>by have:=h.h3 (by simpa using hm);simpa using this,fun hm=>by have:=h.h4 (by simpa using hm);simpa using this,fun hm=>by have:=h.h5 (by simpa using hm);simpa using this,fun hm=>by have:=h.h6 (by simpa using hm);simpa using this,fun hm=>by have:=h.h7 (by simpa using hm);simpa using this,fun hm=>by have:=h.h8 (by simpa using hm);simpa using this,fun hm=>by have:=h.h9 (by simpa using hm);simpa using this,fun _=>by simp,fun hm=>by have:=h.h11 (by simpa using hm);simpa using this,fun hm=>by have:=h.h12 (by simpa using hm);simpa using this,fun hm=>by have:=h.c75 (by simpa using hm);simp[this]⟩,by simpa using hs⟩⟩
  |11=>
    simp[worthOps]at ho;subst ho
    have m0:=hp 0 (by simp)
    have m1:=hp 1 (by simp)
    have m2:=hp 2 (by simp)
    have m3:=hp 3 (by simp)
    have m4:=hp 4 (by simp)
    have m5:=hp 5 (by simp)
    have m6:=hp 6 (by simp)
    have m7:=hp 7 (by simp)
    have m8:=hp 8 (by simp)
    have m9:=hp 9 (by simp)
    refine⟨(11,i64 w)::e,s,by simp[h.h9 m9],⟨⟨by simp[h.g1],by simp[h.g2],by simp[h.g5],by simp[h.g8],by simp[h.g9],by simp[h.g10],fun hm=>by have:=h.h0 (by simpa using hm);simpa using this,fun hm=>by have:=h.h1 (by simpa using hm);simpa using this,fun hm=>by have:=h.h2 (by simpa using hm);simpa using this,fun hm=>by have:=h.h3 (by simpa using hm);simpa using this,fun hm=>by have:=h.h4 (by simpa using hm);simpa using this,fun hm=>by have:=h.h5 (by simpa using hm);simpa using this,fun hm=>by have:=h.h6 (by simpa using hm);simpa using this,fun hm=>by have:=h.h7 (by simpa using hm);simpa using this,fun hm=>by have:=h.h8 (by simpa using hm);simpa using this,fun hm=>by have:=h.h9 (by simpa using hm);simpa using this,fun hm=>by have:=h.h10 (by simpa using hm);simpa using this,fun _=>by simp,fun hm=>by have:=h.h12 (by simpa using hm);simpa using this,fun hm=>by have:=h.c75 (by simpa using hm);simp[this]⟩,by simpa using hs⟩⟩
  |12=>
    simp[worthOps]at ho;subst ho
    have m0:=hp 0 (by simp)
    have m1:=hp 1 (by simp)
    have m2:=hp 2 (by simp)
    have m3:=hp 3 (by simp)
    have m4:=hp 4 (by simp)
    have m5:=hp 5 (by simp)
    have m6:=hp 6 (by simp)
    have m7:=hp 7 (by simp)
    have m8:=hp 8 (by simp)
    have m10:=hp 10 (by simp)
    refine⟨(12, .sl .no 1 (es cInt fv))::e,s,by simp[h.h10 m10],⟨⟨by simp[h.g1],by simp[h.g2],by simp[h.g5],by simp[h.g8],by simp[h.g9],by simp[h.g10],fun hm=>by have:=h.h0 (by simpa using hm);simpa using this,fun hm=>by have:=h.h1 (by simpa using hm);simpa using this,fun hm=>by have:=h.h2 (by simpa using hm);simpa using this,fun hm=>by have:=h.h3 (by simpa using hm);simpa using this,fun hm=>by have:=h.h4 (by simpa using hm);simpa using this,fun hm=>by have:=h.h5 (by simpa using hm);simpa using this,fun hm=>by have:=h.h6 (by simpa using hm);simpa using this,fun hm=>by have:=h.h7 (by simpa using hm);simpa using this,fun hm=>by have:=h.h8 (by simpa using hm);simpa using this,fun hm=>by have:=h.h9 (by simpa using hm);simpa using this,fun hm=>by have:=h.h10 (by simpa using hm);simpa using this,fun hm=>by have:=h.h11 (by simpa using hm);simpa using this,fun _=>by simp,fun hm=>by have:=h.c75 (by simpa using hm);simp[this]⟩,by simpa using hs⟩⟩
  |i+13=>simp[worthOps]at ho
set_option maxHeartbeats 8000000 in
theorem e_worthR(t0:DTrap)(k:Nat):k≤4→WorthD t0 k (refK t0 k):=by
 induction k with
 |zero=>
   intro _ dm lm L S G t hs h hT K lab
   have hL:=G.len
   have hca:=fun lab s=>e_Caught t h lab s
   have e:caughtS t.chambers.toNat (fishL t) (posL t)=worthT t 0:=rfl
   rw[e]at hca
   have hT0:(t.turns=0)=True:=by simp[hT]
   simp only[refK]
   generalize worthT t 0=w at*
   rw[den_fn t78 _ _ _ rfl]
   simp only[b78]
   simp (maxSteps:=1000000) (disch:=first|omega|assumption|decide +kernel|(simp;done)|(simp;omega)|fail) [hL,hT0,hca]
 |succ k ih0=>
   intro hk dm lm L S G t hs h hT K lab
   have ih:= @ih0 (by omega)
   have hL:=G.len
   have hd:=G.ltm
   have e1: ¬dm=L:=by omega
   have hme:=G.mem
   have hpu:=G.put
   have hT0:(t.turns=0)=False:=by simp;omega
   have hcd:=fun lab s=>e_code t h lab s
   have hch:=fun lab s=>e_ChoicesOf t h lab s
   have hwc:=wCode_eq hs h
   have hTn:t.turns.toNat=k+1:=by omega
   rw[hTn]at hwc
   have hws:=worthT_succ t k
   have hshort:=doorB_short (doorB_iff.2 h)
   have hlenC:(choicesS t.hands.toNat t.gates.length).length≤32:=by
    have h1:=(chB_len h).2.2
    have h2:(chB t).length=(choicesS t.hands.toNat t.gates.length).length:=by simp[chB,natI,changesB]
    omega
   have hmc: ∀c∈choicesS t.hands.toNat t.gates.length,c.length<1000000000000∧(∀y∈c,0≤y∧y<t.gates.length)∧c.Pairwise (· < ·):=fun c hc=>by
    obtain⟨q1,q2,q3⟩:=mem_choices.1 hc
    have:=h.ha
    exact⟨by omega,q3,q2⟩
   have hlr: ∀c,0≤leastV (changedT t c) k∧leastV (changedT t c) k≤297:=fun c=>by
    rw[leastV_changed]
    obtain⟨m,hm,e⟩:=leastS_mem t.chambers.toNat t.hands.toNat (fishL t) k (flipG t.gates c) (posL t)
    have hr:=lO_range h k (gN t) (nAt t)
    have h1:=leastT_range h k c
    have h2:=worthT_range h 0
    refine⟨h1.1,Int.le_trans h1.2 ?_⟩
    have key: ∀l:List Int,(∀f∈l,0≤f∧f≤99)→sumF l≤99*l.length:=by
     intro l
     induction l with
     |nil=>intro _;simp[sumF]
     |cons x r ih=>
       intro hh
       have:=ih fun f hf=>hh f (by simp[hf])
       have:=hh x (by simp)
       simp only[sumF,List.foldr_cons,List.length_cons]at*
       omega
    have h5:=key (fishL t) fun f hf=>by
     obtain⟨g,hg,rfl⟩:=List.mem_map.1 hf
     exact(h.groups g hg).2
    have h4:(fishL t).length≤3:=by simpa [fishL]using h.ol
    omega
   simp only[refK]
   generalize hLC:choicesS t.hands.toNat t.gates.length=LC at*
   have hls:=fun(c:List Int) (K:MemR t0) lab=>e_least ih (G.push [[(32, .cell (dV t))]]) (changedT t c) (changed_same hs c) (changed_ok h c) hT K lab
   have hcg:=fun(c:List Int) hc lab s=>e_Changed t hshort c (hmc c hc).1 (hmc c hc).2.1 (hmc c hc).2.2 lab s
   simp only[List.cons_append,List.nil_append]at hls
   have key:=loop_fold (T:=Go.Proofs.Ytbcjofkfgpbhmaa.T) (live:=[1,2,5,8,9,10]) (keep:=[32,272,304,464]) (b:=d78l0) LC (fun _ (a:Int×MemR t0)=>0≤a.1∧a.1≤297)
    (fun a c=>(max a.1 (leastV (changedT t c) k),leastK t0 (refK t0 k) (changedT t c) a.2))
    (fun j a=>[(1, .mp (.ptr dm lm 0)),(2, .ptr L 32 0),(5,i64 (codeT t)),(8,i64 a.1),(9, .sl .no 1 (es cInts LC)),(10,i64 (j:Nat))]) (fun _ a=>[(32, .cell (dV t))]::S a.2.1)
    (fun a=>(.exit 0,[(1, .mp (.ptr dm lm 0)),(2, .ptr L 32 0),(5,i64 (codeT t)),(8,i64 a.1),(9, .sl .no 1 (es cInts LC)),(10,i64 LC.length),(33, .bool false)],[(32, .cell (dV t))]::S a.2.1))
    (by simp) ?_ ?_ ?_ (0,K) (by simp) [(1, .mp (.ptr dm lm 0)),(2, .ptr L 32 0),(5,i64 (codeT t)),(8,i64 0),(9, .sl .no 1 (es cInts LC)),(10,i64 0)] ([(32, .cell (dV t))]::S K.1) (by simp[hL,e1]) (by simp[hL])
   ·rw[fold_pairC (fun a c=>max a (leastV (changedT t c) k)) (fun(K:MemR t0) c=>leastK t0 (refK t0 k) (changedT t c) K),←List.foldl_map (f:=fun c=>leastV (changedT t c) k) (g:=max),←hws]at key
    change Run Go.Proofs.Ytbcjofkfgpbhmaa.T b78l0 _ _=_ at key
    have hr: ∀v,kvGet K.1 [codeT t]=some v→v=worthT t (k+1):=fun v hv=>by rw[←hwc];exact K.2 _ _ hv
    generalize List.foldl (fun(K:MemR t0) c=>leastK t0 (refK t0 k) (changedT t c) K) K LC=K' at*
    have hput:(K'.put [codeT t]).1=kvPut K'.1 [codeT t] (worthT t (k+1)):=by
     show kvPut _ _ (wCode t0 [codeT t])=_
     rw[hwc]
    clear hls hcg hlr hws
    generalize worthT t (k+1)=w at*
    generalize codeT t=cd at*
    cases hv:kvGet K.1 [cd]with
    |some v=>
      obtain rfl:=hr v hv
      rw[den_fn t78 _ _ _ rfl]
      simp only[b78]
      simp (maxSteps:=1000000) (disch:=first|omega|assumption|decide +kernel|(simp;done)|(simp;omega)|fail) [run_drawnK,orSlow_none,hL,hme,hpu,e1,hT0,hcd,hv]
    |none=>
      simp only[Option.isSome_none,Bool.false_eq_true,if_false,hput]
      rw[den_fn t78 _ _ _ rfl]
      simp only[b78]
      simp (maxSteps:=1000000) (disch:=first|omega|assumption|decide +kernel|(simp;done)|(simp;omega)|fail) [run_drawnK,orSlow_none,hL,hme,hpu,e1,hT0,hcd,hv,hch,key]
   ·intro j a hj hi
    obtain⟨a,K2⟩:=a
    have hj2:(j:Int)<LC.length:=by omega
    have hls1:=hls LC[j] K2
    have hcg1:=hcg LC[j] (List.getElem_mem hj)
    have hlr1:=hlr LC[j]
    clear hls hcg hlr hws
    simp only at hi⊢
    generalize leastV (changedT t LC[j]) k=w at*
    generalize firstV (changedT t LC[j]) k=fv at*
    generalize leastK t0 (refK t0 k) (changedT t LC[j]) K2=K3 at*
    generalize changedT t LC[j]=u2 at*
    generalize hc1:LC[j]=c1 at*
    have hreg:=worth_region G t u2 LC j hj c1 fv hc1 w (i64 (codeT t)) (i64 a) K2.1 K3.1 hcg1 hls1
    simp only[worthOps]at hreg
    simp (maxSteps:=1000000) (disch:=first|omega|assumption|decide +kernel|(simp;done)|(simp;omega)|fail) [run_each2,hj,hj2,hc1,hL,e1,hreg,wk j (by omega)]
   ·intro j a hj hi
    have:=hlr LC[j]
    simp only
    omega
   ·intro a hi
    simp
end Go.Proofs.Ytbcjofkfgpbhmaa

/-
  DoorsAfter: its equation.
-/
namespace Go.Proofs.Ytbcjofkfgpbhmaa
open Go.Ab
theorem MapD.top {s:Stk} {lm:Nat} {X:List (List Int×Int)→Ab.Loc}(hm: ∀K,(X K).get lm=some (.mp none K))(hp: ∀K K',(X K).put lm (.mp none K')=X K'):MapD s.length lm (s.length+1) (fun K=>X K::s) where
 len:=fun K=>by simp
 ltm:=by omega
 mem:=fun K=>by rw[sget_top,hm]
 put:=fun K K'=>by rw[sput_top,hp]
end Go.Proofs.Ytbcjofkfgpbhmaa

/-
  Doors, the reference: Worth, Turns, Plan.
-/
namespace Go.Proofs.Ytbcjofkfgpbhmaa
open Go.Ab
theorem turning_same(t:DTrap)(k:Int):SameS t (turningT t k):=⟨rfl,rfl,rfl,rfl⟩
set_option maxHeartbeats 4000000 in
theorem e_WorthOf(t:DTrap)(h:DoorOk t)(lab s):den T 76 [.agg (dV t)] lab s=some (i64 (worthT t t.turns.toNat),s):=by
 have htu:=h.tu
 have hk:t.turns=((t.turns.toNat:Nat):Int):=by omega
 have hw:=fun lab=> @e_worthR t t.turns.toNat (by omega) _ _ _ _ (MapD.top (s:=s) (lm:=64) (X:=fun K=>[(16, .cell (dV t)),(64, .mp none K)]) (fun K=>rfl) (fun K K'=>rfl)) t (SameS.rfl' t) h hk Mem.nil lab
 simp only[Mem.nil_val]at hw
 generalize worthT t t.turns.toNat=w at*
 generalize refK t _ t Mem.nil=K' at*
 rw[den_fn t76 _ _ _ rfl]
 simp only[b76]
 simp (maxSteps:=1000000) (disch:=first|omega|assumption|decide +kernel|(simp;done)|(simp;omega)|fail) [hw]
theorem e_WorthRef(t:DTrap)(hs:ShortD t)(lab s):den T 44 [.agg (dV t)] lab s=some (.tup [i64 (worthR t).1,i64 (worthR t).2],s):=by
 have hc:=fun lab s=>e_CheckR t hs lab s
 unfold worthR
 cases h:doorB t<;>simp only[h,Bool.false_eq_true,if_false,if_true]at hc
 ·rw[den_fn t44 _ _ _ rfl]
  simp only[b44]
  simp (maxSteps:=1000000) (disch:=first|omega|assumption|decide +kernel|(simp;done)|(simp;omega)|fail) [hc]
 ·have hw:=fun lab s=>e_WorthOf t (doorB_iff.1 h) lab s
  generalize worthT t t.turns.toNat=w at*
  rw[den_fn t44 _ _ _ rfl]
  simp only[b44]
  simp (maxSteps:=1000000) (disch:=first|omega|assumption|decide +kernel|(simp;done)|(simp;omega)|fail) [hc,hw]
def planROps:List AOper:=[⟨some 30, .load (some 5) (.t 1),none,[],[]⟩,⟨some 31, .mv (.t 6),none,[],[]⟩,⟨some 32, .mv (.t 7),none,[],[]⟩,⟨some 33, .idxs 1 (.t 31) (.t 32),none,[1,2],[]⟩,⟨some 34, .load none (.t 33),none,[3,1,2],[]⟩,⟨some 35, .call 24 [(.t 30),(.t 34)],none,[0,4,3,1,2],[]⟩,⟨some 36, .mv (.t 5),none,[],[]⟩,⟨some 37, .call 75 [(.t 35),(.t 36)],none,[6,5,0,4,3,1,2],[999999]⟩,⟨some 29, .mv (.t 37),none,[7,6,5,0,4,3,1,2],[]⟩,⟨some 38, .ext (.t 29) 0,none,[8,7,6,5,0,4,3,1,2],[]⟩,⟨some 39, .ext (.t 29) 1,none,[8,7,6,5,0,4,3,1,2],[]⟩,⟨some 8, .mv (.t 38),none,[9,8,7,6,5,0,4,3,1,2],[]⟩,⟨some 9, .mv (.t 39),none,[10,11,9,8,7,6,5,0,4,3,1,2],[]⟩]
theorem planROps_pre: ∀(i:Nat) o,planROps[i]? =some o→ ∀p∈o.pre,p<i:=by
 intro i o h
 match i with
 |0|1|2|3|4|5|6|7|8|9|10|11|12=>simp[planROps]at h;subst h;simp
 |i+13=>simp[planROps]at h
structure PlanRI(t u:DTrap)(LC:List (List Int))(j:Nat)(c1 fv:List Int)(w:Int)(dm lm:Nat)(x1:V)(done:List Nat)(e:Env):Prop where
 g1:e.get 1=x1
 g5:e.get 5= .mp (.ptr dm lm 0)
 g6:e.get 6= .sl .no 1 (es cInts LC)
 g7:e.get 7=i64 (j:Nat)
 h0:0∈done→e.get 30= .agg (dV t)
 h1:1∈done→e.get 31= .sl .no 1 (es cInts LC)
 h2:2∈done→e.get 32=i64 (j:Nat)
 h3:3∈done→e.get 33= .ep [.sl .no 1 (es cInt c1)]
 h4:4∈done→e.get 34= .sl .no 1 (es cInt c1)
 h5:5∈done→e.get 35= .agg (dV u)
 h6:6∈done→e.get 36= .mp (.ptr dm lm 0)
 h7:7∈done→e.get 37= .tup [i64 w, .sl .no 1 (es cInt fv)]
 h8:8∈done→e.get 29= .tup [i64 w, .sl .no 1 (es cInt fv)]
 h9:9∈done→e.get 38=i64 w
 h10:10∈done→e.get 39= .sl .no 1 (es cInt fv)
 h11:11∈done→e.get 8=i64 w
 h12:12∈done→e.get 9= .sl .no 1 (es cInt fv)
 c75:7∈done→5∈done
set_option maxHeartbeats 8000000 in
theorem plan_regionR(X:List (List Int×Int)→Stk)(t u:DTrap)(LC:List (List Int))(j:Nat)(hj:j<LC.length)(c1 fv:List Int)(hc1:LC[j]=c1)(w:Int)(L dm lm:Nat)(K2 K3:List (List Int×Int))(f16: ∀K,sget (X K) L 16=some (.cell (dV t)))
 (hcg: ∀lab s,den T 24 [.agg (dV t), .sl .no 1 (es cInt c1)] lab s=some (.agg (dV u),s)) (hls: ∀lab,den T 75 [.agg (dV u), .mp (.ptr dm lm 0)] lab (X K2)=some (.tup [i64 w, .sl .no 1 (es cInt fv)],X K3)):
 runAny T (Run T) planROps [1,5,6,7,8] planROps [] [(1, .ptr L 16 0),(5, .mp (.ptr dm lm 0)),(6, .sl .no 1 (es cInts LC)),(7,i64 (j:Nat)),(26, .bool true)] (X K2)=
  some ([(1, .ptr L 16 0),(5, .mp (.ptr dm lm 0)),(6, .sl .no 1 (es cInts LC)),(7,i64 (j:Nat)),(8,i64 w)],X K3):=by
 have hj2:(j:Int)<LC.length:=by omega
 refine runAny_start (fun done e s=>PlanRI t u LC j c1 fv w dm lm (.ptr L 16 0) done e∧s=X (if 7∈done then K3 else K2)) _ ?_ ?_ ?_
 ·exact⟨⟨rfl,rfl,rfl,rfl,by simp,by simp,by simp,by simp,by simp,by simp,by simp,by simp,by simp,by simp,by simp,by simp,by simp,by simp⟩,by simp⟩
 ·intro done e s ⟨h,hs⟩ hr
  have hall:=ready_all hr planROps_pre
  simp[Env.only,h.g1,h.g5,h.g6,h.g7,h.h11 (hall 11 (by simp[planROps])),hs,hall 7 (by simp[planROps])]
 ·intro done e s i o ⟨h,hs⟩ ho hn hp
  match i with
  |0=>
    simp[planROps]at ho;subst ho
    have hl:sget s L 16=some (.cell (dV t)):=by rw[hs];exact f16 _
    refine⟨(30, .agg (dV t))::e,s,by simp[h.g1,hl],⟨⟨by simp[h.g1],by simp[h.g5],by simp[h.g6],by simp[h.g7],fun _=>by simp,fun hm=>by have:=h.h1 (by simpa using hm);simpa using this,fun hm=>by have:=h.h2 (by simpa using hm);simpa using this,fun hm=>by have:=h.h3 (by simpa using hm);simpa using this,fun hm=>by have:=h.h4 (by simpa using hm);simpa using this,fun hm=>by have:=h.h5 (by simpa using hm);simpa using this,fun hm=>by have:=h.h6 (by simpa using hm);simpa using this,fun hm=>by have:=h.h7 (by simpa using hm);simpa using this,fun hm=>by have:=h.h8 (by simpa using hm);simpa using this,fun hm=>by have:=h.h9 (by simpa using hm);simpa using this,fun hm=>by have:=h.h10 (by simpa using hm);simpa using this,fun hm=>by have:=h.h11 (by simpa using hm);simpa using this,fun hm=>by have:=h.h12 (by simpa using hm);simpa using this,fun hm=>by have:=h.c75 (by simpa using hm);simp[this]⟩,by simpa using hs⟩⟩
  |1=>
    simp[planROps]at ho;subst ho
    refine⟨(31, .sl .no 1 (es cInts LC))::e,s,by simp[h.g6],⟨⟨by simp[h.g1],by simp[h.g5],by simp[h.g6],by simp[h.g7],fun hm=>by have:=h.h0 (by simpa using hm);simpa using this,fun _=>by simp,fun hm=>by have:=h.h2 (by simpa using hm);simpa using this,fun hm=>by have:=h.h3 (by simpa using hm);simpa using this,fun hm=>by have:=h.h4 (by simpa using hm);simpa using this,fun hm=>by have:=h.h5 (by simpa using hm);simpa using this,fun hm=>by have:=h.h6 (by simpa using hm);simpa using this,fun hm=>by have:=h.h7 (by simpa using hm);simpa using this,fun hm=>by have:=h.h8 (by simpa using hm);simpa using this,fun hm=>by have:=h.h9 (by simpa using hm);simpa using this,fun hm=>by have:=h.h10 (by simpa using hm);simpa using this,fun hm=>by have:=h.h11 (by simpa using hm);simpa using this,fun hm=>by have:=h.h12 (by simpa using hm);simpa using this,fun hm=>by have:=h.c75 (by simpa using hm);simp[this]⟩,by simpa using hs⟩⟩
  |2=>
    simp[planROps]at ho;subst ho
    refine⟨(32,i64 (j:Nat))::e,s,by simp[h.g7],⟨⟨by simp[h.g1],by simp[h.g5],by simp[h.g6],by simp[h.g7],fun hm=>by have:=h.h0 (by simpa using hm);simpa using this,fun hm=>by have:=h.h1 (by simpa using hm);simpa using this,fun _=>by simp,fun hm=>by have:=h.h3 (by simpa using hm);simpa using this,fun hm=>by have:=h.h4 (by simpa using hm);simpa using this,fun hm=>by have:=h.h5 (by simpa using hm);simpa using this,fun hm=>by have:=h.h6 (by simpa using hm);simpa using this,fun hm=>by have:=h.h7 (by simpa using hm);simpa using this,fun hm=>by have:=h.h8 (by simpa using hm);simpa using this,fun hm=>by have:=h.h9 (by simpa using hm);simpa using this,fun hm=>by have:=h.h10 (by simpa using hm);simpa using this,fun hm=>by have:=h.h11 (by simpa using hm);simpa using this,fun hm=>by have:=h.h12 (by simpa using hm);simpa using this,fun hm=>by have:=h.c75 (by simpa using hm);simp[this]⟩,by simpa using hs⟩⟩
  |3=>
    simp[planROps]at ho;subst ho
    have m1:=hp 1 (by simp)
    have m2:=hp 2 (by simp)
    refine⟨(33, .ep [.sl .no 1 (es cInt c1)])::e,s,by simp[h.h1 m1,h.h2 m2,hj,hj2,hc1],⟨⟨by simp[h.g1],by simp[h.g5],by simp[h.g6],by simp[h.g7],fun hm=>by have:=h.h0 (by simpa using hm);simpa using this,fun hm=>by have:=h.h1 (by simpa using hm);simpa using this,fun hm=>by have:=h.h2 (by simpa using hm);simpa using this,fun _=>by simp,fun hm=>by have:=h.h4 (by simpa using hm);simpa using this,fun hm=>by have:=h.h5 (by simpa using hm);simpa using this,fun hm=>by have:=h.h6 (by simpa using hm);simpa using this,fun hm=>by have:=h.h7 (by simpa using hm);simpa using this,fun hm=>by have:=h.h8 (by simpa using hm);simpa using this,fun hm=>by have:=h.h9 (by simpa using hm);simpa using this,fun hm=>by have:=h.h10 (by simpa using hm);simpa using this,fun hm=>by have:=h.h11 (by simpa using hm);simpa using this,fun hm=>by have:=h.h12 (by simpa using hm);simpa using this,fun hm=>by have:=h.c75 (by simpa using hm);simp[this]⟩,by simpa using hs⟩⟩
  |4=>
    simp[planROps]at ho;subst ho
    have m1:=hp 1 (by simp)
    have m2:=hp 2 (by simp)
    have m3:=hp 3 (by simp)
    refine⟨(34, .sl .no 1 (es cInt c1))::e,s,by simp[h.h3 m3],⟨⟨by simp[h.g1],by simp[h.g5],by simp[h.g6],by simp[h.g7],fun hm=>by have:=h.h0 (by simpa using hm);simpa using this,fun hm=>by have:=h.h1 (by simpa using hm);simpa using this,fun hm=>by have:=h.h2 (by simpa using hm);simpa using this,fun hm=>by have:=h.h3 (by simpa using hm);simpa using this,fun _=>by simp,fun hm=>by have:=h.h5 (by simpa using hm);simpa using this,fun hm=>by have:=h.h6 (by simpa using hm);simpa using this,fun hm=>by have:=h.h7 (by simpa using hm);simpa using this,fun hm=>by have:=h.h8 (by simpa using hm);simpa using this,fun hm=>by have:=h.h9 (by simpa using hm);simpa using this,fun hm=>by have:=h.h10 (by simpa using hm);simpa using this,fun hm=>by have:=h.h11 (by simpa using hm);simpa using this,fun hm=>by have:=h.h12 (by simpa using hm);simpa using this,fun hm=>by have:=h.c75 (by simpa using hm);simp[this]⟩,by simpa using hs⟩⟩
  |5=>
    simp[planROps]at ho;subst ho
    have m0:=hp 0 (by simp)
    have m1:=hp 1 (by simp)
    have m2:=hp 2 (by simp)
    have m3:=hp 3 (by simp)
    have m4:=hp 4 (by simp)
    have hcg2:=hcg
    simp only[dV]at hcg2
    refine⟨(35, .agg (dV u))::e,s,by simp[h.h0 m0,h.h4 m4,hcg2],⟨⟨by simp[h.g1],by simp[h.g5],by simp[h.g6],by simp[h.g7],fun hm=>by have:=h.h0 (by simpa using hm);simpa using this,fun hm=>by have:=h.h1 (by simpa using hm);simpa using this,fun hm=>by have:=h.h2 (by simpa using hm);simpa using this,fun hm=>by have:=h.h3 (by simpa using hm);simpa using this,fun hm=>by have:=h.h4 (by simpa using hm);simpa using this,fun _=>by simp,fun hm=>by have:=h.h6 (by simpa using hm);simpa using this,fun hm=>by have:=h.h7 (by simpa using hm);simpa using this,fun hm=>by have:=h.h8 (by simpa using hm);simpa using this,fun hm=>by have:=h.h9 (by simpa using hm);simpa using this,fun hm=>by have:=h.h10 (by simpa using hm);simpa using this,fun hm=>by have:=h.h11 (by simpa using hm);simpa using this,fun hm=>by have:=h.h12 (by simpa using hm);simpa using this,fun hm=>by have:=h.c75 (by simpa using hm);simp[this]⟩,by simpa using hs⟩⟩
  |6=>
    simp[planROps]at ho;subst ho
    refine⟨(36, .mp (.ptr dm lm 0))::e,s,by simp[h.g5],⟨⟨by simp[h.g1],by simp[h.g5],by simp[h.g6],by simp[h.g7],fun hm=>by have:=h.h0 (by simpa using hm);simpa using this,fun hm=>by have:=h.h1 (by simpa using hm);simpa using this,fun hm=>by have:=h.h2 (by simpa using hm);simpa using this,fun hm=>by have:=h.h3 (by simpa using hm);simpa using this,fun hm=>by have:=h.h4 (by simpa using hm);simpa using this,fun hm=>by have:=h.h5 (by simpa using hm);simpa using this,fun _=>by simp,fun hm=>by have:=h.h7 (by simpa using hm);simpa using this,fun hm=>by have:=h.h8 (by simpa using hm);simpa using this,fun hm=>by have:=h.h9 (by simpa using hm);simpa using this,fun hm=>by have:=h.h10 (by simpa using hm);simpa using this,fun hm=>by have:=h.h11 (by simpa using hm);simpa using this,fun hm=>by have:=h.h12 (by simpa using hm);simpa using this,fun hm=>by have:=h.c75 (by simpa using hm);simp[this]⟩,by simpa using hs⟩⟩
  |7=>
    simp[planROps]at ho;subst ho
    have m0:=hp 0 (by simp)
    have m1:=hp 1 (by simp)
    have m2:=hp 2 (by simp)
    have m3:=hp 3 (by simp)
    have m4:=hp 4 (by simp)
    have m5:=hp 5 (by simp)
    have m6:=hp 6 (by simp)
    rw[if_neg hn]at hs
    subst hs
    have hls2:=hls
    simp only[dV]at hls2
    refine⟨(37, .tup [i64 w, .sl .no 1 (es cInt fv)])::e,X K3,by simp[h.h5 m5,h.h6 m6,hls2],⟨⟨by simp[h.g1],by simp[h.g5],by simp[h.g6],by simp[h.g7],fun hm=>by have:=h.h0 (by simpa using hm);simpa using this,fun hm=>by have:=h.h1 (by simpa using hm);simpa using this,fun hm=>by have:=h.h2 (by simpa using hm);simpa using this,fun hm=>by have:=h.h3 (by simpa using hm);simpa using this,fun hm=>by have:=h.h4 (by simpa using hm);simpa using this,fun hm=>by have:=h.h5 (by simpa using hm);simpa using this,fun hm=>by have:=h.h6 (by simpa using hm);simpa using this,fun _=>by simp,fun hm=>by have:=h.h8 (by simpa using hm);simpa using this,fun hm=>by have:=h.h9 (by simpa using hm);simpa using this,fun hm=>by have:=h.h10 (by simpa using hm);simpa using this,fun hm=>by have:=h.h11 (by simpa using hm);simpa using this,fun hm=>by have:=h.h12 (by simpa using hm);simpa using this,fun hm=>by simp[m5]⟩,by simp⟩⟩
  |8=>
    simp[planROps]at ho;subst ho
    have m0:=hp 0 (by simp)
    have m1:=hp 1 (by simp)
    have m2:=hp 2 (by simp)
    have m3:=hp 3 (by simp)
    have m4:=hp 4 (by simp)
    have m5:=hp 5 (by simp)
    have m6:=hp 6 (by simp)
    have m7:=hp 7 (by simp)
    refine⟨(29, .tup [i64 w, .sl .no 1 (es cInt fv)])::e,s,by simp[h.h7 m7],⟨⟨by simp[h.g1],by simp[h.g5],by simp[h.g6],by simp[h.g7],fun hm=>by have:=h.h0 (by simpa using hm);simpa using this,fun hm=>by have:=h.h1 (by simpa using hm);simpa using this,fun hm=>by have:=h.h2 (by simpa using hm);simpa using this,fun hm=>by have:=h.h3 (by simpa using hm);simpa using this,fun hm=>by have:=h.h4 (by simpa using hm);simpa using this,fun hm=>by have:=h.h5 (by simpa using hm);simpa using this,fun hm=>by have:=h.h6 (by simpa using hm);simpa using this,fun hm=>by have:=h.h7 (by simpa using hm);simpa using this,fun _=>by simp,fun hm=>by have:=h.h9 (by simpa using hm);simpa using this,fun hm=>by have:=h.h10 (by simpa using hm);simpa using this,fun hm=>by have:=h.h11 (by simpa using hm);simpa using this,fun hm=>by have:=h.h12 (by simpa using hm);simpa using this,fun hm=>by have:=h.c75 (by simpa using hm);simp[this]⟩,by simpa using hs⟩⟩
  |9=>
    simp[planROps]at ho;subst ho
    have m0:=hp 0 (by simp)
    have m1:=hp 1 (by simp)
    have m2:=hp 2 (by simp)
    have m3:=hp 3 (by simp)
    have m4:=hp 4 (by simp)
    have m5:=hp 5 (by simp)
    have m6:=hp 6 (by simp)
    have m7:=hp 7 (by simp)
    have m8:=hp 8 (by simp)
    refine⟨(38,i64 w)::e,s,by simp[h.h8 m8],⟨⟨by simp[h.g1],by simp[h.g5],by simp[h.g6],by simp[h.g7],fun hm=>by have:=h.h0 (by simpa using hm);simpa using this,fun hm=>by have:=h.h1 (by simpa using hm);simpa using this,fun hm=>by have:=h.h2 (by simpa using hm);simpa using this,fun hm=>by have:=h.h3 (by simpa using hm);simpa using this,fun hm=>by have:=h.h4 (by simpa using hm);simpa using this,fun hm=>by have:=h.h5 (by simpa using hm);simpa using this,fun hm=>by have:=h.h6 (by simpa using hm);simpa using this,fun hm=>by have:=h.h7 (by simpa using hm);simpa using this,fun hm=>by have:=h.h8 (by simpa using hm);simpa using this,fun _=>by simp,fun hm=>by have:=h.h10 (by simpa using hm);simpa using this,fun hm=>by have:=h.h11 (by simpa using hm);simpa using this,fun hm=>by have:=h.h12 (by simpa using hm);simpa using this,fun hm=>by have:=h.c75 (by simpa using hm);simp[this]⟩,by simpa using hs⟩⟩
  |10=>
    simp[planROps]at ho;subst ho
    have m0:=hp 0 (by simp)
    have m1:=hp 1 (by simp)
    have m2:=hp 2 (by simp)
    have m3:=hp 3 (by simp)
    have m4:=hp 4 (by simp)
    have m5:=hp 5 (by simp)
    have m6:=hp 6 (by simp)
    have m7:=hp 7 (by simp)
    have m8:=hp 8 (by simp)
    refine⟨(39, .sl .no 1 (es cInt fv))::e,s,by simp[h.h8 m8],⟨⟨by simp[h.g1],by simp[h.g5],by simp[h.g6],by simp[h.g7],fun hm=>by have:=h.h0 (by simpa using hm);simpa using this,fun hm=>by have:=h.h1 (by simpa using hm);simpa using this,fun hm=>by have:=h.h2 (by simpa using hm);simpa using this,fun hm=>by have:=h.h3 (by simpa using hm);simpa using this,fun hm=>by have:=h.h4 (by simpa using hm);simpa using this,fun hm=>by have:=h.h5 (by simpa using hm);simpa using this,fun hm=>by have:=h.h6 (by simpa using hm);simpa using this,fun hm=>by have:=h.h7 (by simpa using hm);simpa using this,fun hm=>by have:=h.h8 (by simpa using hm);simpa using this,fun hm=>by have:=h.h9 (by simpa using hm);simpa using this,fun _=>by simp,fun hm=>by have:=h.h11 (by simpa using hm);simpa using this,fun hm=>by have:=h.h12 (by simpa using hm);simpa using this,fun hm=>by have:=h.c75 (by simpa using hm);simp[this]⟩,by simpa using hs⟩⟩
  |11=>
    simp[planROps]at ho;subst ho
    have m0:=hp 0 (by simp)
    have m1:=hp 1 (by simp)
    have m2:=hp 2 (by simp)
    have m3:=hp 3 (by simp)
    have m4:=hp 4 (by simp)
    have m5:=hp 5 (by simp)
    have m6:=hp 6 (by simp)
    have m7:=hp 7 (by simp)
    have m8:=hp 8 (by simp)
    have m9:=hp 9 (by simp)
    refine⟨(8,i64 w)::e,s,by simp[h.h9 m9],⟨⟨by simp[h.g1],by simp[h.g5],by simp[h.g6],by simp[h.g7],fun hm=>by have:=h.h0 (by simpa using hm);simpa using this,fun hm=>by have:=h.h1 (by simpa using hm);simpa using this,fun hm=>by have:=h.h2 (by simpa using hm);simpa using this,fun hm=>by have:=h.h3 (by simpa using hm);simpa using this,fun hm=>by have:=h.h4 (by simpa using hm);simpa using this,fun hm=>by have:=h.h5 (by simpa using hm);simpa using this,fun hm=>by have:=h.h6 (by simpa using hm);simpa using this,fun hm=>by have:=h.h7 (by simpa using hm);simpa using this,fun hm=>by have:=h.h8 (by simpa using hm);simpa using this,fun hm=>by have:=h.h9 (by simpa using hm);simpa using this,fun hm=>by have:=h.h10 (by simpa using hm);simpa using this,fun _=>by simp,fun hm=>by have:=h.h12 (by simpa using hm);simpa using this,fun hm=>by have:=h.c75 (by simpa using hm);simp[this]⟩,by simpa using hs⟩⟩
  |12=>
    simp[planROps]at ho;subst ho
    have m0:=hp 0 (by simp)
    have m1:=hp 1 (by simp)
    have m2:=hp 2 (by simp)
    have m3:=hp 3 (by simp)
    have m4:=hp 4 (by simp)
    have m5:=hp 5 (by simp)
    have m6:=hp 6 (by simp)
    have m7:=hp 7 (by simp)
    have m8:=hp 8 (by simp)
    have m10:=hp 10 (by simp)
    refine⟨(9, .sl .no 1 (es cInt fv))::e,s,by simp[h.h10 m10],⟨⟨by simp[h.g1],by simp[h.g5],by simp[h.g6],by simp[h.g7],fun hm=>by have:=h.h0 (by simpa using hm);simpa using this,fun hm=>by have:=h.h1 (by simpa using hm);simpa using this,fun hm=>by have:=h.h2 (by simpa using hm);simpa using this,fun hm=>by have:=h.h3 (by simpa using hm);simpa using this,fun hm=>by have:=h.h4 (by simpa using hm);simpa using this,fun hm=>by have:=h.h5 (by simpa using hm);simpa using this,fun hm=>by have:=h.h6 (by simpa using hm);simpa using this,fun hm=>by have:=h.h7 (by simpa using hm);simpa using this,fun hm=>by have:=h.h8 (by simpa using hm);simpa using this,fun hm=>by have:=h.h9 (by simpa using hm);simpa using this,fun hm=>by have:=h.h10 (by simpa using hm);simpa using this,fun hm=>by have:=h.h11 (by simpa using hm);simpa using this,fun _=>by simp,fun hm=>by have:=h.c75 (by simpa using hm);simp[this]⟩,by simpa using hs⟩⟩
  |i+13=>simp[planROps]at ho
end Go.Proofs.Ytbcjofkfgpbhmaa

/-
  Doors, the reference: Turns, Plan.
-/
namespace Go.Proofs.Ytbcjofkfgpbhmaa
open Go.Ab
set_option maxHeartbeats 4000000 in
theorem e_TurnsR(t:DTrap)(hs:ShortD t)(fish:Int)(lab s):den T 46 [.agg (dV t),i64 fish] lab s=some (.tup [i64 (turnsR t fish).1,i64 (turnsR t fish).2],s):=by
 have ha:=fun b lab s=>e_ask t hs b lab s
 unfold turnsR
 unfold askD at ha
 cases h:doorB t
 ·simp only[h,Bool.false_eq_true,if_false]at ha
  rw[den_fn t46 _ _ _ rfl]
  simp only[b46]
  simp (maxSteps:=1000000) (disch:=first|omega|assumption|decide +kernel|(simp;done)|(simp;omega)|fail) [ha]
 have ho:=doorB_iff.1 h
 simp only[h,if_true]at ha
 by_cases hf:0≤fish
 rotate_left
 ·rw[den_fn t46 _ _ _ rfl]
  simp only[b46]
  simp (maxSteps:=1000000) (disch:=first|omega|assumption|decide +kernel|(simp;done)|(simp;omega)|fail) [ha,hf]
 have htn:=fun(k:Nat) lab s=>e_Turning t hs (k:Nat) lab s
 have hw:=fun(k:Nat) (hk:k≤4) (K:MemR t) lab=> @e_worthR t k hk _ _ _ _ (MapD.top (s:=s) (lm:=256) (X:=fun K=>[(32, .cell (dV t)),(256, .mp none K)]) (fun K=>rfl) (fun K K'=>rfl)) (turningT t (k:Nat)) (turning_same t _) (turning_ok ho hk) rfl K lab
 have ew: ∀k:Nat,worthT (turningT t (k:Nat)) k=worthT t k:=fun k=>rfl
 simp only[ew]at hw
 have key:=loop_list_e (T:=Go.Proofs.Ytbcjofkfgpbhmaa.T) (live:=[1,2,7,8]) (keep:=[32,192,256]) (b:=d46l0) (List.range 5)
  (fun _ (_:MemR t×Int)=>True)
  (fun k _=>[(1,i64 fish),(2, .ptr s.length 32 0),(7, .mp (.ptr s.length 256 0)),(8,i64 (k:Nat))]) (fun _ p=>[(32, .cell (dV t)),(256, .mp none p.1.1)]::s)
  (fun p k=>((refK t k (turningT t (k:Nat)) p.1,((k:Nat):Int)),!decide (fish≤worthT t k)))
  (fun(_:Unit) p=>(.ret,[(4,i64 p.2),(5,i64 0)],[(32, .cell (dV t)),(256, .mp none p.1.1)]::s)) (fun p=>(.exit 0,[(1,i64 fish),(2, .ptr s.length 32 0),(7, .mp (.ptr s.length 256 0)),(8,i64 5),(18, .bool false)],[(32, .cell (dV t)),(256, .mp none p.1.1)]::s))
  (by simp) (by simp) ?_ ?_ (Mem.nil,0) trivial [(1,i64 fish),(2, .ptr s.length 32 0),(7, .mp (.ptr s.length 256 0)),(8,i64 0)] ([(32, .cell (dV t)),(256, .mp none [])]::s) (by simp) (by simp)
 ·obtain⟨g,hg⟩:=key
  have fold: ∀(l:List Nat) (a:MemR t×Int),∃a',foldB (fun(p:MemR t×Int) (k:Nat)=>((refK t k (turningT t (k:Nat)) p.1,((k:Nat):Int)),!decide (fish≤worthT t k))) l a=(a',(l.find? fun k=>decide (fish≤worthT t k)).isNone)∧ ∀k,(l.find? fun k=>decide (fish≤worthT t k))=some k→a'.2=(k:Nat):=by
   intro l
   induction l with
   |nil=>intro a;exact⟨a,rfl,fun k hk=>by simp at hk⟩
   |cons x r ih=>
     intro a
     simp only[foldB,List.find?_cons]
     by_cases hx:fish≤worthT t x
     ·exact⟨(refK t x (turningT t (x:Nat)) a.1,((x:Nat):Int)),by simp[hx],fun k hk=>by simp[hx]at hk;rw[hk]⟩
     ·obtain⟨a',h1,h2⟩:=ih (refK t x (turningT t (x:Nat)) a.1,((x:Nat):Int))
      exact⟨a',by simp only[hx,decide_false,Bool.not_false,if_true];exact h1,fun k hk=>h2 k (by simpa [hx]using hk)⟩
  obtain⟨⟨K',j⟩,hf1,hf2⟩:=fold (List.range 5) (Mem.nil,0)
  rw[hf1]at hg
  change∀k,turnsF t fish=some k→_ at hf2
  change Run T b46l0 _ _=if (turnsF t fish).isNone=true then _ else _ at hg
  simp only[if_pos hf]at hg⊢
  clear hw
  cases hq:turnsF t fish with
  |none=>
    rw[hq]at hg
    simp only[Option.isNone_none,if_true]at hg
    rw[den_fn t46 _ _ _ rfl]
    simp only[b46]
    simp (maxSteps:=1000000) (disch:=first|omega|assumption|decide +kernel|(simp;done)|(simp;omega)|fail) [ha,hf,hg]
  |some k=>
    rw[hq]at hg
    have hj:=hf2 k hq
    simp only at hj
    subst hj
    simp only[Option.isNone_some,Bool.false_eq_true,if_false]at hg
    rw[den_fn t46 _ _ _ rfl]
    simp only[b46]
    simp (maxSteps:=1000000) (disch:=first|omega|assumption|decide +kernel|(simp;done)|(simp;omega)|fail) [ha,hf,hg]
 ·intro k p hk _
  obtain⟨K,j⟩:=p
  simp only[List.length_range]at hk
  simp only[List.getElem_range]
  have hk5:(k:Int)≤4:=by omega
  have hw1:=hw k (by omega) K
  have ht1:=htn k
  generalize refK t k (turningT t (k:Nat)) K=K2 at*
  generalize turningT t (k:Nat)=u2 at*
  generalize worthT t k=w at*
  clear hw htn
  by_cases hc:fish≤w
  ·refine⟨fun hb=>absurd hb (by simp[hc]),fun _=>⟨(),?_⟩⟩
   simp (maxSteps:=1000000) (disch:=first|omega|assumption|decide +kernel|(simp;done)|(simp;omega)|fail) [hk5,ht1,hw1,hc,wk k (by omega)]
  ·refine⟨fun _=>⟨?_,trivial⟩,fun hb=>absurd hb (by simp[hc])⟩
   simp (maxSteps:=1000000) (disch:=first|omega|assumption|decide +kernel|(simp;done)|(simp;omega)|fail) [hk5,ht1,hw1,hc,wk k (by omega)]
 ·intro p _
  simp
set_option maxHeartbeats 8000000 in
theorem e_PlanR(t:DTrap)(hs:ShortD t)(lab s):den T 45 [.agg (dV t)] lab s=some (.tup [.sl .no 1 (es cInt (planR t).1),i64 (planR t).2],s):=by
 have hck:=fun lab s=>e_CheckR t hs lab s
 unfold planR
 cases h:doorB t<;>simp only[h,Bool.false_eq_true,if_false,if_true]at hck
 ·rw[den_fn t45 _ _ _ rfl]
  simp only[b45]
  simp (maxSteps:=1000000) (disch:=first|omega|assumption|decide +kernel|(simp;done)|(simp;omega)|fail) [hck]
 have ho:=doorB_iff.1 h
 have htu:=ho.tu
 have hch:=fun lab s=>e_ChoicesOf t ho lab s
 have hne:=choices_ne t.hands.toNat t.gates.length
 have hlenC:(choicesS t.hands.toNat t.gates.length).length≤32:=by
  have h1:=(chB_len ho).2.2
  have h2:(chB t).length=(choicesS t.hands.toNat t.gates.length).length:=by simp[chB,natI,changesB]
  omega
 have hl0:(0:Int)<(choicesS t.hands.toNat t.gates.length).length:=by have:=List.length_pos_iff.2 hne;omega
 have hln:=List.length_pos_iff.2 hne
 by_cases hT:0<t.turns
 rotate_left
 ·have hlp:Run Go.Proofs.Ytbcjofkfgpbhmaa.T b45l0 [(1, .ptr s.length 16 0),(5, .mp (.ptr s.length 240 0)),(6, .sl .no 1 (es cInts (choicesS t.hands.toNat t.gates.length))),(7,i64 0)] ([(16, .cell (dV t)),(240, .mp none [])]::s)=
   some (.exit 0,[(1, .ptr s.length 16 0),(5, .mp (.ptr s.length 240 0)),(6, .sl .no 1 (es cInts (choicesS t.hands.toNat t.gates.length))),(7,i64 0),(26, .bool false)],[(16, .cell (dV t)),(240, .mp none [])]::s):=by
   refine loop_stop (b:=d45l0) (keep:=[16,176,240,272]) (live:=[1,5,6,7]) ?_ (by simp)
   simp (maxSteps:=1000000) (disch:=first|omega|assumption|decide +kernel|(simp;done)|(simp;omega)|fail) [hl0,hln,hT]
  generalize choicesS t.hands.toNat t.gates.length=LC at*
  rw[den_fn t45 _ _ _ rfl]
  simp only[b45]
  simp (maxSteps:=1000000) (disch:=first|omega|assumption|decide +kernel|(simp;done)|(simp;omega)|fail) [hck,hch,hlp,hT]
 ·have hk:((t.turns.toNat-1+1:Nat):Int)=t.turns:=by omega
  have hkT:t.turns=((t.turns.toNat:Nat):Int):=by omega
  have G:=MapD.top (s:=s) (lm:=240) (X:=fun K=>[(16, .cell (dV t)),(240, .mp none K)]) (fun K=>rfl) (fun K K'=>rfl)
  have hls:=fun(c:List Int) (K:MemR t) lab=>e_least (t0:=t) (@e_worthR t (t.turns.toNat-1) (by omega)) G (changedT t c) (changed_same (SameS.rfl' t) c) (changed_ok ho c) hk.symm K lab
  simp only[leastV_changed,firstV_changed]at hls
  have hwt:=fun(K:MemR t) lab=> @e_worthR t t.turns.toNat (by omega) _ _ _ _ G t (SameS.rfl' t) ho hkT K lab
  have hmc: ∀c∈choicesS t.hands.toNat t.gates.length,c.length<1000000000000∧(∀y∈c,0≤y∧y<t.gates.length)∧c.Pairwise (· < ·):=fun c hc=>by
   obtain⟨q1,q2,q3⟩:=mem_choices.1 hc
   have:=ho.ha
   exact⟨by omega,q3,q2⟩
  have hcg:=fun(c:List Int) hc lab s=>e_Changed t hs c (hmc c hc).1 (hmc c hc).2.1 (hmc c hc).2.2 lab s
  obtain⟨hp1,hp2,_⟩:=plan_in ho hT
  have hpf: ∃c,(choicesS t.hands.toNat t.gates.length).find? (fun c=>decide (leastT t (t.turns.toNat-1) c=worthT t t.turns.toNat))=some c∧planS t=c:=by
   cases hq:(choicesS t.hands.toNat t.gates.length).find? fun c=>decide (leastT t (t.turns.toNat-1) c=worthT t t.turns.toNat)with
   |none=>
     have:=List.find?_eq_none.1 hq _ hp1
     simp only[decide_eq_true_eq]at this
     exact absurd hp2 this
   |some c=>exact⟨c,rfl,by simp[planS,hq]⟩
  obtain⟨c0,hc0,hps⟩:=hpf
  rw[if_pos hT,hps]
  have key:=loop_list_e (T:=Go.Proofs.Ytbcjofkfgpbhmaa.T) (live:=[1,5,6,7]) (keep:=[16,176,240,272]) (b:=d45l0) (choicesS t.hands.toNat t.gates.length)
   (fun _ (_:MemR t×List Int)=>True)
   (fun k _=>[(1, .ptr s.length 16 0),(5, .mp (.ptr s.length 240 0)),(6, .sl .no 1 (es cInts (choicesS t.hands.toNat t.gates.length))),(7,i64 (k:Nat))]) (fun _ p=>[(16, .cell (dV t)),(240, .mp none p.1.1)]::s)
   (fun p c=>((refK t t.turns.toNat t (leastK t (refK t (t.turns.toNat-1)) (changedT t c) p.1),c),!decide (leastT t (t.turns.toNat-1) c=worthT t t.turns.toNat)))
   (fun(_:Unit) p=>(.ret,[(2, .sl .no 1 (es cInt p.2)),(3,i64 0)],[(16, .cell (dV t)),(240, .mp none p.1.1)]::s)) (fun p=>(.exit 0,[(1, .ptr s.length 16 0),(5, .mp (.ptr s.length 240 0)),(6, .sl .no 1 (es cInts (choicesS t.hands.toNat t.gates.length))),(7,i64 (choicesS t.hands.toNat t.gates.length).length),(26, .bool false)],[(16, .cell (dV t)),(240, .mp none p.1.1)]::s))
   (by simp) (by simp) ?_ ?_ (Mem.nil,[]) trivial [(1, .ptr s.length 16 0),(5, .mp (.ptr s.length 240 0)),(6, .sl .no 1 (es cInts (choicesS t.hands.toNat t.gates.length))),(7,i64 0)] ([(16, .cell (dV t)),(240, .mp none [])]::s) (by simp) (by simp)
  ·obtain⟨g,hg⟩:=key
   obtain⟨K',e⟩:=foldB_find (fun(K:MemR t) c=>refK t t.turns.toNat t (leastK t (refK t (t.turns.toNat-1)) (changedT t c) K)) (fun c=>decide (leastT t (t.turns.toNat-1) c=worthT t t.turns.toNat)) (choicesS t.hands.toNat t.gates.length) Mem.nil []
   rw[e,hc0]at hg
   simp only[Option.getD_some,Option.isNone_some,Bool.false_eq_true,if_false]at hg
   change Run T b45l0 _ _=_ at hg
   clear hls hwt hcg e
   generalize choicesS t.hands.toNat t.gates.length=LC at*
   rw[den_fn t45 _ _ _ rfl]
   simp only[b45]
   simp (maxSteps:=1000000) (disch:=first|omega|assumption|decide +kernel|(simp;done)|(simp;omega)|fail) [hck,hch,hg]
  ·intro k p hk _
   obtain⟨K,c1⟩:=p
   have hk2:(k:Int)<(choicesS t.hands.toNat t.gates.length).length:=by omega
   have hcg1:=hcg _ (List.getElem_mem hk)
   have hls1:=hls (choicesS t.hands.toNat t.gates.length)[k] K
   have hwt1:=hwt (leastK t (refK t (t.turns.toNat-1)) (changedT t (choicesS t.hands.toNat t.gates.length)[k]) K)
   clear hls hwt hcg hc0 hps hp1 hp2 hne
   simp only
   generalize hLC:choicesS t.hands.toNat t.gates.length=LC at*
   generalize leastK t (refK t (t.turns.toNat-1)) (changedT t LC[k]) K=K1 at*
   generalize refK t t.turns.toNat t K1=K2 at*
   have hreg:=plan_regionR (fun K=>[(16, .cell (dV t)),(240, .mp none K)]::s) t (changedT t LC[k]) LC k hk LC[k] (replyS t LC[k]) rfl (leastT t (t.turns.toNat-1) LC[k]) s.length s.length 240 K.1 K1.1 (fun K=>by rw[sget_top];rfl) hcg1 hls1
   simp only[planROps]at hreg
   generalize leastT t (t.turns.toNat-1) LC[k]=w1 at*
   generalize worthT t t.turns.toNat=w2 at*
   clear hls1 hcg1
   generalize hc2:LC[k]=c2 at*
   by_cases hw:w1=w2
   ·refine⟨fun hb=>absurd hb (by simp[hw]),fun _=>⟨(),?_⟩⟩
    simp (maxSteps:=1000000) (disch:=first|omega|assumption|decide +kernel|(simp;done)|(simp;omega)|fail) [run_each2,hk,hk2,hT,hc2,hreg,hwt1,hw]
   ·refine⟨fun _=>⟨?_,trivial⟩,fun hb=>absurd hb (by simp[hw])⟩
    simp (maxSteps:=1000000) (disch:=first|omega|assumption|decide +kernel|(simp;done)|(simp;omega)|fail) [run_each2,hk,hk2,hT,hc2,hreg,hwt1,hw,wk k (by omega)]
  ·intro p _
   simp
end Go.Proofs.Ytbcjofkfgpbhmaa

/-
  DoorsWorth: its equation.
-/
namespace Go.Proofs.Ytbcjofkfgpbhmaa
open Go.Ab
theorem planR_len {t:DTrap}:(planR t).1.length<4611686018427387904:=by
 unfold planR
 split
 ·rename_i hd
  have ho:=doorB_iff.1 hd
  split
  ·rename_i hT
   have:=(mem_choices.1 (plan_in ho hT).1).1
   have:=ho.ha
   simp only;omega
  ·simp
 ·simp
set_option maxHeartbeats 8000000 in
theorem e_DoorsWorth(t:DTrap)(hs:ShortD t)(fish:Int)(lab s):den T 10 [.agg (dV t),i64 fish] lab s=some (.bool true,s):=by
 have hfa:=fun lab s=>e_Far t hs lab s
 have hwo:=fun lab s=>e_worksD lab s
 cases hf:farD t<;>rw[hf]at hfa
 rotate_left
 ·rw[den_fn t10 _ _ _ rfl]
  simp only[b10]
  simp (maxSteps:=1000000) (disch:=first|omega|assumption|decide +kernel|(simp;done)|(simp;omega)|fail) [hfa,hwo]
 have hb:t.gates.length≤40∧t.groups.length≤40:=by
  simp only[farD,hugeB,Bool.or_eq_false_iff,decide_eq_false_iff_not]at hf;omega
 have hcp:=fun lab loc s k0 k1=>e_CopyD t hs lab loc s k0 k1
 have h1:=fun lab s=>e_Worth t hs lab s
 have h2:=fun lab s=>e_WorthRef t hs lab s
 have h3:=fun lab s=>e_Plan t hs lab s
 have h4:=fun lab s=>e_PlanR t hs lab s
 have h5:=fun lab s=>e_Turns t hs fish lab s
 have h6:=fun lab s=>e_TurnsR t hs fish lab s
 have hsd:=fun lab s=>e_SameD t hb.1 hb.2 lab s
 have hs1:=fun lab s=>e_Same2 (planR t).1 (planR t).1 planR_len planR_len lab s
 simp only[decide_true]at hs1
 generalize worthR t=A at*
 generalize planR t=B at*
 generalize turnsR t fish=C at*
 rw[den_fn t10 _ _ _ rfl]
 simp only[b10]
 simp (maxSteps:=1000000) (disch:=first|omega|assumption|decide +kernel|(simp;done)|(simp;omega)|fail) [run_drawnK,orSlow_none,hfa,hwo,hcp,h1,h2,h3,h4,h5,h6,hsd,hs1]
end Go.Proofs.Ytbcjofkfgpbhmaa

/-
  What the arguments of the laws of doors read as.
-/
namespace Go.Proofs.Ytbcjofkfgpbhmaa
open Go.Ab
set_option maxRecDepth 100000
theorem cells48:Try.prog.cellsOf 48=3:=by kernel_rfl
theorem cells39:Try.prog.cellsOf 39=2:=by kernel_rfl
variable {B : TypeId → Nat → Prop} {n : Nat} {vs : List V}
theorem fit_int(h:Fit Try.prog B (n+1) 3 vs): ∃x,vs=[i64 x]:=by
 simp only[Fit,Try.underlying3]at h
 exact h
theorem fit_bool(h:Fit Try.prog B (n+1) 4 vs): ∃x,vs=[.bool x]:=by
 simp only[Fit,Try.underlying4]at h
 exact h
theorem es_all {α:Type} {f:α→List V}(l:List (List V))(h: ∀x∈l,∃y,x=f y): ∃l':List α,l=es f l':=by
 obtain⟨l',h1,_⟩:=es_of (Q:=fun _=>True) l fun x hx=>by obtain⟨y,hy⟩:=h x hx;exact⟨y,hy,trivial⟩
 exact⟨l',h1⟩
theorem fit_gate(h:Fit Try.prog B (n+2) 48 vs): ∃g:DGate,vs=cGate g:=by
 rw[Fit,Try.underlying48]at h
 simp only[FitF]at h
 obtain⟨_,_,rfl,h0,_,_,rfl,h1,_,_,rfl,h2,rfl⟩:=h
 obtain⟨a,rfl⟩:=fit_int h0
 obtain⟨b,rfl⟩:=fit_int h1
 obtain⟨c,rfl⟩:=fit_bool h2
 exact⟨⟨a,b,c⟩,rfl⟩
theorem fit_group(h:Fit Try.prog B (n+2) 39 vs): ∃g:DGroup,vs=cGroup g:=by
 rw[Fit,Try.underlying39]at h
 simp only[FitF]at h
 obtain⟨_,_,rfl,h0,_,_,rfl,h1,rfl⟩:=h
 obtain⟨a,rfl⟩:=fit_int h0
 obtain⟨b,rfl⟩:=fit_int h1
 exact⟨⟨a,b⟩,rfl⟩
theorem fit_gates(h:Fit Try.prog B (n+3) 22 vs): ∃l:List DGate,vs=[.sl .no 3 (es cGate l)]∧B 48 l.length:=by
 rw[Fit,Try.underlying22]at h
 simp only at h
 obtain⟨l,rfl,hb,h⟩:=h
 obtain⟨l',rfl⟩:=es_all (f:=cGate) l fun x hx=>fit_gate (h x hx)
 rw[cells48]
 exact⟨l',rfl,by simpa using hb⟩
theorem fit_groups(h:Fit Try.prog B (n+3) 23 vs): ∃l:List DGroup,vs=[.sl .no 2 (es cGroup l)]∧B 39 l.length:=by
 rw[Fit,Try.underlying23]at h
 simp only at h
 obtain⟨l,rfl,hb,h⟩:=h
 obtain⟨l',rfl⟩:=es_all (f:=cGroup) l fun x hx=>fit_group (h x hx)
 rw[cells39]
 exact⟨l',rfl,by simpa using hb⟩
def Reach(e:TypeId)(k:Nat):Prop:=k≤maxLen∧k*Try.prog.bytesOf e≤reachBytes
theorem bytes48:Try.prog.bytesOf 48=24:=by kernel_rfl
theorem bytes39:Try.prog.bytesOf 39=16:=by kernel_rfl
theorem fit_trap(h:Fit Try.prog Reach (n+4) 25 vs): ∃t:DTrap,vs=dV t∧ShortD t:=by
 rw[Fit,Try.underlying25]at h
 simp only[FitF]at h
 obtain⟨_,_,rfl,h0,_,_,rfl,h1,_,_,rfl,h2,_,_,rfl,h3,_,_,rfl,h4,rfl⟩:=h
 obtain⟨a,rfl⟩:=fit_int h0
 obtain⟨b,rfl⟩:=fit_int h1
 obtain⟨c,rfl⟩:=fit_int h2
 obtain⟨d,rfl,q1⟩:=fit_gates h3
 obtain⟨e,rfl,q2⟩:=fit_groups h4
 simp only[Reach,bytes48,bytes39,reachBytes]at q1 q2
 exact⟨⟨a,b,c,d,e⟩,rfl,by simp only;omega,by simp only;omega⟩
end Go.Proofs.Ytbcjofkfgpbhmaa

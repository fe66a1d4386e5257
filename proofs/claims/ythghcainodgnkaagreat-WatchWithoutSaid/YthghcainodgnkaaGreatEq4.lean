/-
  Watch: WatchWithout (not built yet).
-/
import Derived.Test.YthghcainodgnkaaGreatEq3
set_option linter.unusedSimpArgs false
set_option linter.unusedVariables false
namespace Go.Proofs.YthghcainodgnkaaGreat
open Go.Ab
theorem good_iff {b:WBook} {l:List Int}:(bookB b&&(canR b l&&isOneB (trapOf b l)))=true↔bookB b=true∧rising l 0 (b.trap.times-1)=true∧storyB b l=true:=by
 unfold canR storyB
 simp only[Bool.and_eq_true,and_assoc]
theorem x_without_copy {b:WBook}(hc:CopyB b)(n:Nat):CopyB {b with trap:=withoutT b.trap n}:=by
 obtain⟨⟨h1,h2,h3⟩,h4⟩:=hc
 refine⟨⟨h1,?_,h3⟩,h4⟩
 simp only[withoutT,List.length_append,List.length_take,List.length_drop]
 omega
theorem bookB_without {b:WBook}(hB:bookB b=true) {n:Nat}(hn:n<b.trap.words.length):bookB {b with trap:=withoutT b.trap n}=true:=by
 have ht:=bookB_trap hB
 have hm: ∀w,w∈(withoutT b.trap n).words→w∈b.trap.words:=(without_less hn).words
 simp only[bookB,trapB,Bool.and_eq_true,decide_eq_true_eq,allB,List.all_eq_true]at hB⊢
 obtain⟨⟨q1,q2,q3,q4,q5,q6⟩,q7⟩:=hB
 refine⟨⟨q1,q2,q3,?_,q5,fun w hw=>q6 w (hm w hw)⟩,q7⟩
 simp only[withoutT,List.length_append,List.length_take,List.length_drop]
 omega
set_option maxHeartbeats 16000000 in
theorem e_WatchWithout(b:WBook)(hs:ShortB b)(n:Int)(l:List Int)(hl:l.length<4611686018427387904)(lab s):den T 8 [.agg (vB b),i64 n, .sl .no 1 (es cInt l)] lab s=some (.bool true,s):=by
 have h1:=fun lab s=>e_ready b hs lab s
 cases c1:readyK b
 ·rw[den_fn t8 _ _ _ rfl]
  simp only[b8]
  simp (maxSteps:=6000000) (disch:=first|omega|assumption|decide +kernel|(simp;done)|(simp;omega)|fail) [h1,c1]
 obtain⟨hc,hB,_⟩:=readyK_ok c1
 have h2:=fun lab s=>e_IsWord11 b hc n lab s
 cases c3:wiB n 0 ((b.trap.words.length:Int)-1)
 ·rw[c3]at h2
  rw[den_fn t8 _ _ _ rfl]
  simp only[b8]
  simp (maxSteps:=6000000) (disch:=first|omega|assumption|decide +kernel|(simp;done)|(simp;omega)|fail) [h1,c1,h2]
 rw[c3]at h2
 by_cases c2:40<l.length
 ·have c2':(40:Int)<l.length:=by omega
  rw[den_fn t8 _ _ _ rfl]
  simp only[b8]
  simp (maxSteps:=6000000) (disch:=first|omega|assumption|decide +kernel|(simp;done)|(simp;omega)|fail) [h1,c1,h2,c2,c2']
 have c2': ¬(40:Int)<l.length:=by omega
 have hb:=wiB_iff.1 c3
 obtain⟨n,rfl⟩: ∃m:Nat,n=m:=⟨n.toNat,by omega⟩
 have hn:n<b.trap.words.length:=by omega
 have hok:=bookB_ok hB
 have htt:=hok.trap.tt
 have h3:=fun lab s=>e_LiesW b hc n lab s
 have h4:=fun lab s=>e_MustW b hc lab s
 have h5:=fun e lab s=>e_isKnown e lab s
 have hml:(mustL b).length≤b.T:=by
  unfold mustL
  rw[List.length_map]
  have:=List.length_filter_le (fun(n:Nat)=>(storiesL b).all fun l=>l.contains (n:Int)) (List.range b.T)
  rwa [List.length_range]at this
 have eT:b.T=b.trap.times.toNat:=rfl
 unfold liesV11 at h3
 rw[open11_B hB,if_pos c3]at h3
 rw[open11_B hB,if_pos rfl]at h4
 by_cases hne:storiesL b=[]
 ·rw[if_pos hne]at h3 h4
  rw[if_neg (by decide)]at h3 h4
  simp only[es_nil]at h4
  have n1: ¬b.trap.times<0:=by omega
  rw[den_fn t8 _ _ _ rfl]
  simp only[b8]
  simp (maxSteps:=6000000) (disch:=first|omega|assumption|decide +kernel|(simp;done)|(simp;omega)|fail) [run_drawnK,orSlow_none,h1,c1,h2,h3,h4,h5,c2,c2',n1]
 rw[if_neg hne]at h3 h4
 rw[if_pos rfl]at h3 h4
 have n1: ¬b.trap.times<((mustL b).length:Int):=by omega
 by_cases hv:liesV b (wordAt b n)=1
 rotate_left
 ·generalize liesV b (wordAt b n)=v at*
  generalize mustL b=M at*
  rw[den_fn t8 _ _ _ rfl]
  simp only[b8]
  simp (maxSteps:=6000000) (disch:=first|omega|assumption|decide +kernel|(simp;done)|(simp;omega)|fail) [run_drawnK,orSlow_none,h1,c1,h2,h3,h4,h5,c2,c2',n1,hv]
 rw[hv]at h3
 have hg:Gone b {b with trap:=withoutT b.trap n} n:=⟨hn,rfl,rfl,rfl,rfl⟩
 obtain⟨g1,g2⟩:=hg.false hok hne hv
 have hmem:=lies_must hok (wordAt_mem hn) hv
 have hoc:=x_without_copy hc n
 have hoB:=bookB_without hB hn
 have h6:=fun lab s=>e_Copy11 b hc lab s
 have h7:=fun lab s=>e_Without01 b.trap hc.trap n hn lab s
 have h8:=fun lab s=>e_lies11 b hB hc lab s
 have h9:=fun lab s=>e_lies11 _ hoB hoc lab s
 have h10:=fun lab s=>e_Good b hc l (by omega) lab s
 have h11:=fun lab s=>e_Good _ hoc l (by omega) lab s
 have hgd:(bookB b&&(canR b l&&isOneB (trapOf b l)))=true→(bookB {b with trap:=withoutT b.trap n}&&(canR {b with trap:=withoutT b.trap n} l&&isOneB (trapOf {b with trap:=withoutT b.trap n} l)))=true:=fun h=>by
  rw[good_iff]at h⊢
  exact⟨hoB,h.2.1,hg.story hok h.2.2⟩
 unfold falseN at h8 h9
 rw[if_neg hne]at h8
 rw[if_neg g1]at h9
 rw[hB,if_pos rfl]at h10
 rw[hoB,if_pos rfl]at h11
 rw[hB,hoB]at hgd
 have i1:=fun lab s=>e_In (mustL b) b.trap.words[n].time (by omega) lab s
 have ew:wordAt b n=b.trap.words[n]:=by simp[wordAt,List.getD,hn]
 rw[ew]at hmem
 rw[in_contains,List.contains_eq_mem,decide_eq_true hmem]at i1
 have hn2:(n:Int)<b.trap.words.length:=by omega
 have hlt:((blameL {b with trap:=withoutT b.trap n}).length:Int)<(blameL b).length:=by omega
 clear hmem ew hg
 simp only[Bool.true_and]at h10 h11 hgd
 generalize (canR {b with trap:=withoutT b.trap n} l&&isOneB (trapOf {b with trap:=withoutT b.trap n} l))=G2 at*
 generalize (canR b l&&isOneB (trapOf b l))=G1 at*
 generalize blameL {b with trap:=withoutT b.trap n}=M2 at*
 generalize blameL b=M1 at*
 generalize hwt:withoutT b.trap n=t2 at*
 dsimp only[vB]at h9 h11
 generalize mustL b=M at*
 generalize hw:b.trap.words[n]=w at*
 by_cases h0:l=[]
 ·subst h0
  simp only[es_nil]at h10 h11⊢
  cases G1
  ·rw[den_fn t8 _ _ _ rfl]
   simp only[b8]
   simp (maxSteps:=6000000) (disch:=first|omega|assumption|decide +kernel|(simp;done)|(simp;omega)|fail) [run_drawnK,orSlow_none,appD_full_nil,h1,c1,h2,h3,h4,h5,h6,h7,h8,h9,h10,h11,n1,i1,-e_In,hn,hn2,hw,hlt]
  ·rw[hgd rfl]at h11
   rw[den_fn t8 _ _ _ rfl]
   simp only[b8]
   simp (maxSteps:=6000000) (disch:=first|omega|assumption|decide +kernel|(simp;done)|(simp;omega)|fail) [run_drawnK,orSlow_none,appD_full_nil,h1,c1,h2,h3,h4,h5,h6,h7,h8,h9,h10,h11,n1,i1,-e_In,hn,hn2,hw,hlt]
 ·have hne:es cInt l≠[]:=by simpa using h0
  cases G1
  ·rw[den_fn t8 _ _ _ rfl]
   simp only[b8]
   simp (maxSteps:=6000000) (disch:=first|omega|assumption|decide +kernel|(simp;done)|(simp;omega)|fail) [run_drawnK,orSlow_none,appD_full,hne,h0,c2,c2',h1,c1,h2,h3,h4,h5,h6,h7,h8,h9,h10,h11,n1,i1,-e_In,hn,hn2,hw,hlt]
  ·rw[hgd rfl]at h11
   rw[den_fn t8 _ _ _ rfl]
   simp only[b8]
   simp (maxSteps:=6000000) (disch:=first|omega|assumption|decide +kernel|(simp;done)|(simp;omega)|fail) [run_drawnK,orSlow_none,appD_full,hne,h0,c2,c2',h1,c1,h2,h3,h4,h5,h6,h7,h8,h9,h10,h11,n1,i1,-e_In,hn,hn2,hw,hlt]
end Go.Proofs.YthghcainodgnkaaGreat

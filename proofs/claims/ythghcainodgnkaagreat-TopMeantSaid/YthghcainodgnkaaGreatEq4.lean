/-
  Watch: TopMeant (not built yet).
-/
import Derived.Test.YthghcainodgnkaaGreatEq3
set_option linter.unusedSimpArgs false
set_option linter.unusedVariables false
namespace Go.Proofs.YthghcainodgnkaaGreat
open Go.Ab
theorem dry_book {b:WBook}(hB:bookB b=true):bookB {b with drunk:=0}=true:=by
 simp only[bookB,Bool.and_eq_true]at hB⊢
 exact⟨hB.1,wiB_iff.2 (by omega),hB.2.2⟩
theorem inBook_story {b:WBook}(hB:bookB b=true)(hc:CopyB b) {l:List Int}(h:(canR b l&&isOneB (trapOf b l))=true):l∈storiesL b∧InBook (trapOf b l) b:=by
 have hok:=bookB_ok hB
 have htt:=hok.trap.tt
 have eT:b.T=b.trap.times.toNat:=rfl
 obtain⟨_,hr,hst⟩:=good_iff.1 (show(bookB b&&(canR b l&&isOneB (trapOf b l)))=true by rw[hB,h];rfl)
 have hall:l∈allL b.T:=by
  obtain⟨r1,r2⟩:=rising_iff.1 hr
  exact allL_mem.2 ⟨r1,fun y hy=>by have:=r2 y hy;omega⟩
 have hin:l∈storiesL b:=story_mem.2 ⟨hall,hst⟩
 have ht:=trapB_less (bookB_trap hB) l
 exact⟨hin,ht,(trapB_copy ht).short,(story_can hst).2,rfl,rfl,hB,hc,List.ne_nil_of_mem hin,fun i c j d hi hc hj hd=>span_in hok hin hi hc hj hd⟩
theorem inBook_dry {b:WBook}(hB:bookB b=true)(hc:CopyB b)(h:isOneB b.trap=true):InBook b.trap {b with drunk:=0}∧ ∀i c j d,spanW {b with drunk:=0} i c j d=difR b.trap i c j d:=by
 have hok:=bookB_ok (dry_book hB)
 have hst:storiesL {b with drunk:=0}=[[]]:=(dry_stories hok.run.1 rfl).trans (if_pos h)
 have hd:=dry_span hst
 have hin:[]∈storiesL {b with drunk:=0}:=by rw[hst];simp
 refine⟨⟨bookB_trap hB,(trapB_copy (bookB_trap hB)).short,h,rfl,rfl,dry_book hB,⟨hc.trap,hc.sober⟩,List.ne_nil_of_mem hin,fun i c j d hi hc hj hd=> ?_⟩,hd⟩
 have:=span_in hok hin hi hc hj hd
 rwa [trapOf_nil]at this
theorem truthV_ok {t:CTrap}(h:trapB t=true)(h1:isOneB t=true):truthV t= .sl .no 1 (es cInts (rowsT t))∧openT t true=0:=by
 have e:openT t true=0:=by rw[openT_of h,if_pos rfl,if_pos h1]
 exact⟨by unfold truthV;rw[if_pos e],e⟩
theorem truthV_no {t:CTrap}(h:trapB t=true)(h1:isOneB t=false):truthV t= .sl .no 1 []∧openT t true=3:=by
 have e:openT t true=3:=by rw[openT_of h,if_pos rfl,if_neg (by rw[h1];decide)]
 exact⟨by unfold truthV;rw[if_neg (by rw[e];decide)],e⟩
set_option maxHeartbeats 32000000 in
theorem e_TopMeant_0(b:WBook)(hs:ShortB b)(l:List Int)(hl0:l=[])(hB:bookB b=true)(c1:farB b=false)(c3: ¬(40:Int)<l.length)(lab s):den T 15 [.agg (vB b), .sl .no 1 (es cInt l)] lab s=some (.bool true,s):=by
 have c4: ¬40<l.length:=by omega
 have h0:=fun lab s=>e_meant lab s
 have h1:=fun lab s=>e_Far b hs lab s
 rw[c1]at h1
 have hc:=farB_copy c1
 have h2:=fun lab s=>e_Check11 b hc lab s
 rw[hB,if_pos rfl]at h2
 have hok:=bookB_ok hB
 have htt:=hok.trap.tt
 have h3:=fun lab s=>e_Good b hc l (by omega) lab s
 rw[hB,if_pos rfl,Bool.true_and]at h3
 have h4:=fun lab s=>e_CanBe b hc (by omega) (trapB_mid (bookB_trap hB)) l (by omega) lab s
 have h5:=fun lab s=>e_TrapOf b hc l (by omega) lab s
 have ht:=trapB_less (bookB_trap hB) l
 have h6:=fun lab s=>e_Truth (trapOf b l) (trapB_copy ht).short lab s
 have h9:=fun lab s=>e_Copy11 b hc lab s
 have h10:=fun lab s=>e_Truth b.trap (trapB_copy (bookB_trap hB)).short lab s
 have h11:=fun lab s=>e_StoriesW {b with drunk:=0} ⟨hc.trap,hc.sober⟩ lab s
 have hin:=inBook_story (l:=l) hB hc
 have hdr:=inBook_dry hB hc
 rw[dry_book hB,if_pos rfl,if_pos rfl,dry_stories (b:= {b with drunk:=0}) hok.run.1 rfl]at h11
 dsimp only at h11
 have e1:=truthV_ok ht
 have e2:=truthV_no ht
 have e3:=truthV_ok (bookB_trap hB)
 have e4:=truthV_no (bookB_trap hB)
 have h12:=fun hi lab s=>e_inBook b.trap {b with drunk:=0} hi lab s
 have h13:=fun hi hd lab s=>e_asBook b.trap {b with drunk:=0} hi hd lab s
 dsimp only[vB]at h11 h12 h13
 (have e0:es cInt l=[]:=by rw[hl0];rfl);rw[e0]at h3 h4 h5⊢
 cases cD:isOneB b.trap
 ·rw[(e4 cD).1,(e4 cD).2]at h10
  rw[cD]at h11
  clear h12 h13 hdr e3 e4
  simp only[Bool.false_eq_true,if_false,List.length_nil,Int.natCast_zero]at h11
  cases cR:canR b l
  ·rw[cR]at h3 h4
   clear hin e1 e2
   rw[Bool.false_and]at h3
   rw[den_fn t15 _ _ _ rfl]
   simp only[b15]
   simp (maxSteps:=6000000) (disch:=first|omega|assumption|decide +kernel|(simp;done)|(simp;omega)|fail) [run_drawnK,orSlow_none,appD_full_nil,h0,h1,h2,c3,c4,h3,h4,h9,h10,h11]
  cases cO:isOneB (trapOf b l)
  ·rw[cR,cO]at h3
   rw[cR]at h4
   rw[(e2 cO).1,(e2 cO).2]at h6
   rw[Bool.and_false]at h3
   clear hin e1 e2
   generalize trapOf b l=t at*
   rw[den_fn t15 _ _ _ rfl]
   simp only[b15]
   simp (maxSteps:=6000000) (disch:=first|omega|assumption|decide +kernel|(simp;done)|(simp;omega)|fail) [run_drawnK,orSlow_none,appD_full_nil,h0,h1,h2,c3,c4,h3,h4,h5,h6,h9,h10,h11]
  ·obtain⟨hi,hb⟩:=hin (by rw[cR,cO];rfl)
   have h7:=fun lab s=>e_inBook (trapOf b l) b hb lab s
   have h8:=fun lab s=>e_lying b l hb hi lab s
   rw[cR,cO]at h3
   rw[cR]at h4
   rw[(e1 cO).1,(e1 cO).2]at h6
   rw[Bool.and_true]at h3
   clear hin e1 e2 hi hb
   generalize rowsT (trapOf b l)=RR at*
   generalize trapOf b l=t at*
   rw[den_fn t15 _ _ _ rfl]
   simp only[b15]
   simp (maxSteps:=6000000) (disch:=first|omega|assumption|decide +kernel|(simp;done)|(simp;omega)|fail) [run_drawnK,orSlow_none,appD_full_nil,h0,h1,h2,c3,c4,h3,h4,h5,h6,h7,h8,h9,h10,h11]
 ·rw[(e3 cD).1,(e3 cD).2]at h10
  rw[cD]at h11
  obtain⟨d1,d2⟩:=hdr cD
  have h12:=h12 d1
  have h13:=h13 d1 d2
  clear hdr e3 e4 d1 d2
  simp only[if_true,List.length_cons,List.length_nil]at h11
  generalize rowsT b.trap=RB at*
  cases cR:canR b l
  ·rw[cR]at h3 h4
   clear hin e1 e2
   rw[Bool.false_and]at h3
   rw[den_fn t15 _ _ _ rfl]
   simp only[b15]
   simp (maxSteps:=6000000) (disch:=first|omega|assumption|decide +kernel|(simp;done)|(simp;omega)|fail) [run_drawnK,orSlow_none,appD_full_nil,h0,h1,h2,c3,c4,h3,h4,h9,h10,h11,h12,h13]
  cases cO:isOneB (trapOf b l)
  ·rw[cR,cO]at h3
   rw[cR]at h4
   rw[(e2 cO).1,(e2 cO).2]at h6
   rw[Bool.and_false]at h3
   clear hin e1 e2
   generalize trapOf b l=t at*
   rw[den_fn t15 _ _ _ rfl]
   simp only[b15]
   simp (maxSteps:=6000000) (disch:=first|omega|assumption|decide +kernel|(simp;done)|(simp;omega)|fail) [run_drawnK,orSlow_none,appD_full_nil,h0,h1,h2,c3,c4,h3,h4,h5,h6,h9,h10,h11,h12,h13]
  ·obtain⟨hi,hb⟩:=hin (by rw[cR,cO];rfl)
   have h7:=fun lab s=>e_inBook (trapOf b l) b hb lab s
   have h8:=fun lab s=>e_lying b l hb hi lab s
   rw[cR,cO]at h3
   rw[cR]at h4
   rw[(e1 cO).1,(e1 cO).2]at h6
   rw[Bool.and_true]at h3
   clear hin e1 e2 hi hb
   generalize rowsT (trapOf b l)=RR at*
   generalize trapOf b l=t at*
   rw[den_fn t15 _ _ _ rfl]
   simp only[b15]
   simp (maxSteps:=6000000) (disch:=first|omega|assumption|decide +kernel|(simp;done)|(simp;omega)|fail) [run_drawnK,orSlow_none,appD_full_nil,h0,h1,h2,c3,c4,h3,h4,h5,h6,h7,h8,h9,h10,h11,h12,h13]
set_option maxHeartbeats 32000000 in
theorem e_TopMeant_1(b:WBook)(hs:ShortB b)(l:List Int)(hl0:es cInt l≠[])(hB:bookB b=true)(c1:farB b=false)(c3: ¬(40:Int)<l.length)(lab s):den T 15 [.agg (vB b), .sl .no 1 (es cInt l)] lab s=some (.bool true,s):=by
 have c4: ¬40<l.length:=by omega
 have h0:=fun lab s=>e_meant lab s
 have h1:=fun lab s=>e_Far b hs lab s
 rw[c1]at h1
 have hc:=farB_copy c1
 have h2:=fun lab s=>e_Check11 b hc lab s
 rw[hB,if_pos rfl]at h2
 have hok:=bookB_ok hB
 have htt:=hok.trap.tt
 have h3:=fun lab s=>e_Good b hc l (by omega) lab s
 rw[hB,if_pos rfl,Bool.true_and]at h3
 have h4:=fun lab s=>e_CanBe b hc (by omega) (trapB_mid (bookB_trap hB)) l (by omega) lab s
 have h5:=fun lab s=>e_TrapOf b hc l (by omega) lab s
 have ht:=trapB_less (bookB_trap hB) l
 have h6:=fun lab s=>e_Truth (trapOf b l) (trapB_copy ht).short lab s
 have h9:=fun lab s=>e_Copy11 b hc lab s
 have h10:=fun lab s=>e_Truth b.trap (trapB_copy (bookB_trap hB)).short lab s
 have h11:=fun lab s=>e_StoriesW {b with drunk:=0} ⟨hc.trap,hc.sober⟩ lab s
 have hin:=inBook_story (l:=l) hB hc
 have hdr:=inBook_dry hB hc
 rw[dry_book hB,if_pos rfl,if_pos rfl,dry_stories (b:= {b with drunk:=0}) hok.run.1 rfl]at h11
 dsimp only at h11
 have e1:=truthV_ok ht
 have e2:=truthV_no ht
 have e3:=truthV_ok (bookB_trap hB)
 have e4:=truthV_no (bookB_trap hB)
 have h12:=fun hi lab s=>e_inBook b.trap {b with drunk:=0} hi lab s
 have h13:=fun hi hd lab s=>e_asBook b.trap {b with drunk:=0} hi hd lab s
 dsimp only[vB]at h11 h12 h13
 skip
 cases cD:isOneB b.trap
 ·rw[(e4 cD).1,(e4 cD).2]at h10
  rw[cD]at h11
  clear h12 h13 hdr e3 e4
  simp only[Bool.false_eq_true,if_false,List.length_nil,Int.natCast_zero]at h11
  cases cR:canR b l
  ·rw[cR]at h3 h4
   clear hin e1 e2
   rw[Bool.false_and]at h3
   rw[den_fn t15 _ _ _ rfl]
   simp only[b15]
   simp (maxSteps:=6000000) (disch:=first|omega|assumption|decide +kernel|(simp;done)|(simp;omega)|fail) [run_drawnK,orSlow_none,appD_full,hl0,h0,h1,h2,c3,c4,h3,h4,h9,h10,h11]
  cases cO:isOneB (trapOf b l)
  ·rw[cR,cO]at h3
   rw[cR]at h4
   rw[(e2 cO).1,(e2 cO).2]at h6
   rw[Bool.and_false]at h3
   clear hin e1 e2
   generalize trapOf b l=t at*
   rw[den_fn t15 _ _ _ rfl]
   simp only[b15]
   simp (maxSteps:=6000000) (disch:=first|omega|assumption|decide +kernel|(simp;done)|(simp;omega)|fail) [run_drawnK,orSlow_none,appD_full,hl0,h0,h1,h2,c3,c4,h3,h4,h5,h6,h9,h10,h11]
  ·obtain⟨hi,hb⟩:=hin (by rw[cR,cO];rfl)
   have h7:=fun lab s=>e_inBook (trapOf b l) b hb lab s
   have h8:=fun lab s=>e_lying b l hb hi lab s
   rw[cR,cO]at h3
   rw[cR]at h4
   rw[(e1 cO).1,(e1 cO).2]at h6
   rw[Bool.and_true]at h3
   clear hin e1 e2 hi hb
   generalize rowsT (trapOf b l)=RR at*
   generalize trapOf b l=t at*
   rw[den_fn t15 _ _ _ rfl]
   simp only[b15]
   simp (maxSteps:=6000000) (disch:=first|omega|assumption|decide +kernel|(simp;done)|(simp;omega)|fail) [run_drawnK,orSlow_none,appD_full,hl0,h0,h1,h2,c3,c4,h3,h4,h5,h6,h7,h8,h9,h10,h11]
 ·rw[(e3 cD).1,(e3 cD).2]at h10
  rw[cD]at h11
  obtain⟨d1,d2⟩:=hdr cD
  have h12:=h12 d1
  have h13:=h13 d1 d2
  clear hdr e3 e4 d1 d2
  simp only[if_true,List.length_cons,List.length_nil]at h11
  generalize rowsT b.trap=RB at*
  cases cR:canR b l
  ·rw[cR]at h3 h4
   clear hin e1 e2
   rw[Bool.false_and]at h3
   rw[den_fn t15 _ _ _ rfl]
   simp only[b15]
   simp (maxSteps:=6000000) (disch:=first|omega|assumption|decide +kernel|(simp;done)|(simp;omega)|fail) [run_drawnK,orSlow_none,appD_full,hl0,h0,h1,h2,c3,c4,h3,h4,h9,h10,h11,h12,h13]
  cases cO:isOneB (trapOf b l)
  ·rw[cR,cO]at h3
   rw[cR]at h4
   rw[(e2 cO).1,(e2 cO).2]at h6
   rw[Bool.and_false]at h3
   clear hin e1 e2
   generalize trapOf b l=t at*
   rw[den_fn t15 _ _ _ rfl]
   simp only[b15]
   simp (maxSteps:=6000000) (disch:=first|omega|assumption|decide +kernel|(simp;done)|(simp;omega)|fail) [run_drawnK,orSlow_none,appD_full,hl0,h0,h1,h2,c3,c4,h3,h4,h5,h6,h9,h10,h11,h12,h13]
  ·obtain⟨hi,hb⟩:=hin (by rw[cR,cO];rfl)
   have h7:=fun lab s=>e_inBook (trapOf b l) b hb lab s
   have h8:=fun lab s=>e_lying b l hb hi lab s
   rw[cR,cO]at h3
   rw[cR]at h4
   rw[(e1 cO).1,(e1 cO).2]at h6
   rw[Bool.and_true]at h3
   clear hin e1 e2 hi hb
   generalize rowsT (trapOf b l)=RR at*
   generalize trapOf b l=t at*
   rw[den_fn t15 _ _ _ rfl]
   simp only[b15]
   simp (maxSteps:=6000000) (disch:=first|omega|assumption|decide +kernel|(simp;done)|(simp;omega)|fail) [run_drawnK,orSlow_none,appD_full,hl0,h0,h1,h2,c3,c4,h3,h4,h5,h6,h7,h8,h9,h10,h11,h12,h13]
set_option maxHeartbeats 4000000 in
theorem e_TopMeant(b:WBook)(hs:ShortB b)(l:List Int)(hl:l.length<4611686018427387904)(lab s):den T 15 [.agg (vB b), .sl .no 1 (es cInt l)] lab s=some (.bool true,s):=by
 have h0:=fun lab s=>e_meant lab s
 have h1:=fun lab s=>e_Far b hs lab s
 cases c1:farB b
 rotate_left
 ·rw[den_fn t15 _ _ _ rfl]
  simp only[b15]
  simp (maxSteps:=6000000) (disch:=first|omega|assumption|decide +kernel|(simp;done)|(simp;omega)|fail) [h0,h1,c1]
 have hc:=farB_copy c1
 have h2:=fun lab s=>e_Check11 b hc lab s
 cases hB:bookB b
 ·rw[hB,if_neg (by decide)]at h2
  rw[den_fn t15 _ _ _ rfl]
  simp only[b15]
  simp (maxSteps:=6000000) (disch:=first|omega|assumption|decide +kernel|(simp;done)|(simp;omega)|fail) [h0,h1,c1,h2]
 by_cases c3:(40:Int)<l.length
 ·have c3':40<l.length:=by omega
  rw[hB,if_pos rfl]at h2
  rw[den_fn t15 _ _ _ rfl]
  simp only[b15]
  simp (maxSteps:=6000000) (disch:=first|omega|assumption|decide +kernel|(simp;done)|(simp;omega)|fail) [h0,h1,c1,h2,c3,c3']
 by_cases h:l=[]
 ·exact e_TopMeant_0 b hs l h hB c1 c3 lab s
 ·exact e_TopMeant_1 b hs l (by simpa using h) hB c1 c3 lab s
end Go.Proofs.YthghcainodgnkaaGreat

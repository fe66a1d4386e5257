/-
  Watch: WatchStories, whole.
-/
import Derived.Test.YthghcainodgnkaaGreatEq4
set_option linter.unusedSimpArgs false
set_option linter.unusedVariables false
namespace Go.Proofs.YthghcainodgnkaaGreat
open Go.Ab
theorem must_in {b:WBook} {l:List Int}(hl:l∈storiesL b): ∀n,n∈mustL b→n∈l:=fun _ hn=>(must_mem.1 hn).2 l hl
theorem must_len_T(b:WBook):(mustL b).length≤b.T:=by
 unfold mustL
 rw[List.length_map]
 have:=List.length_filter_le (fun(n:Nat)=>(storiesL b).all fun l=>l.contains (n:Int)) (List.range b.T)
 rwa [List.length_range]at this
set_option maxHeartbeats 32000000 in
theorem e_WatchStories(b:WBook)(hs:ShortB b)(l:List Int)(hl:l.length<4611686018427387904)(n:Int)(lab s):den T 12 [.agg (vB b), .sl .no 1 (es cInt l),i64 n] lab s=some (.bool true,s):=by
 have h1:=fun lab s=>e_ready b hs lab s
 cases c1:readyK b
 ·rw[den_fn t12 _ _ _ rfl]
  simp only[b12]
  simp (maxSteps:=6000000) (disch:=first|omega|assumption|decide +kernel|(simp;done)|(simp;omega)|fail) [h1,c1]
 by_cases c2:40<l.length
 ·have c2':(40:Int)<l.length:=by omega
  rw[den_fn t12 _ _ _ rfl]
  simp only[b12]
  simp (maxSteps:=6000000) (disch:=first|omega|assumption|decide +kernel|(simp;done)|(simp;omega)|fail) [h1,c1,c2,c2']
 have c2': ¬(40:Int)<l.length:=by omega
 obtain⟨hc,hB,_⟩:=readyK_ok c1
 have h2:=fun lab s=>e_IsStory b hB hc l (by omega) lab s
 cases c3:(canR b l&&isOneB (trapOf b l))
 ·rw[c3]at h2
  rw[den_fn t12 _ _ _ rfl]
  simp only[b12]
  simp (maxSteps:=6000000) (disch:=first|omega|assumption|decide +kernel|(simp;done)|(simp;omega)|fail) [h1,c1,c2,c2',h2]
 rw[c3]at h2
 have hok:=bookB_ok hB
 have htt:=hok.trap.tt
 have eT:b.T=b.trap.times.toNat:=rfl
 obtain⟨_,hr,hst⟩:=good_iff.1 (show(bookB b&&(canR b l&&isOneB (trapOf b l)))=true by rw[hB,c3];rfl)
 have hall:l∈allL b.T:=by
  obtain⟨r1,r2⟩:=rising_iff.1 hr
  exact allL_mem.2 ⟨r1,fun y hy=>by have:=r2 y hy;omega⟩
 have hin:l∈storiesL b:=story_mem.2 ⟨hall,hst⟩
 have hne:storiesL b≠[]:=List.ne_nil_of_mem hin
 have h3:=fun lab s=>e_MustW b hc lab s
 have h4:=fun lab s=>e_LeastW b hc lab s
 rw[open11_B hB,if_pos rfl,if_neg hne,if_pos rfl]at h3 h4
 have hml:=must_len_T b
 obtain⟨f1,f2⟩:=head_first hin
 obtain⟨f3,f4⟩:=no_early f2
 have f5:=((stories_len hB).2 _ f1).1
 have h5:=fun lab s=>e_IsStory b hB hc ((storiesL b).headD []) (by omega) lab s
 have hst2:(canR b ((storiesL b).headD [])&&isOneB (trapOf b ((storiesL b).headD [])))=true:=by
  obtain⟨g1,g2⟩:=story_mem.1 f1
  have:rising ((storiesL b).headD []) 0 (b.trap.times-1)=true:=rising_iff.2 ⟨(allL_mem.1 g1).1,fun y hy=>by have:=(allL_mem.1 g1).2 y hy;omega⟩
  unfold canR
  rw[this,Bool.true_and]
  exact g2
 rw[hst2]at h5
 have h6:=fun e lab s=>e_Earlier l ((storiesL b).headD []) (by omega) e lab s
 have h7:=e_WStories_l0 b l (mustL b) n (by omega) (by omega) (must_in hin) s
 have h8:=e_WStories_l1 b hB hc l n (by omega) hin s
 have h9:=e_WStories_l2 b hB l n (by omega) s
 rw[pickSo_fold,List.nil_append]at h9
 have hmore:((List.range b.T).filter fun(k:Nat)=>decide ((k:Int)=n)||l.contains (k:Int)).map (fun(k:Nat)=>(k:Int))=soberL {b with sober:=l} n:=rfl
 dsimp only at h9
 rw[hmore]at h9
 have hm2:=soberL_all {b with sober:=l} n
 obtain⟨p1,p2⟩:=allL_mem.1 hm2
 have p3:=pair_lenL (lo:=0) p1 p2
 have eT2:WBook.T {b with sober:=l}=b.T:=rfl
 have ht6:=hok.t6
 have p4:(soberL {b with sober:=l} n).length<1000000:=by omega
 have h10:=fun lab s=>e_Good b hc (soberL {b with sober:=l} n) p4 lab s
 have h11:=fun lab s=>e_CanBe b hc (by omega) (trapB_mid (bookB_trap hB)) (soberL {b with sober:=l} n) p4 lab s
 have hone:isOneB (trapOf b (soberL {b with sober:=l} n))=true:=more_story hok hin fun k hk=>soberL_mem.2 ⟨by have:=(allL_mem.1 hall).2 k hk;exact this, .inr hk⟩
 rw[hB,hone,Bool.and_true,Bool.true_and,if_pos rfl]at h10
 have n1: ¬b.trap.times<((mustL b).length:Int):=by omega
 have n2: ¬(l.length:Int)<((storiesL b).headD []).length:=by omega
 clear hall hin hne f1 f2 f5 hst2 hst hr hm2 p1 p2 p3 eT2 hone hmore htt eT hml h2 ht6
 have h2:=fun lab s=>e_IsStory b hB hc l (by omega) lab s
 rw[c3]at h2
 clear c3
 generalize hS:soberL {b with sober:=l} n=S at*
 generalize canR b S=R at*
 generalize (storiesL b).headD []=H at*
 generalize mustL b=M at*
 generalize b.T=TT at*
 have hS0:S=[]∨es cInt S≠[]:=by
  by_cases h:S=[]
  ·exact .inl h
  ·exact .inr (by simpa using h)
 by_cases c4:l.length=H.length
 ·have c4':(H.length:Int)=l.length:=by omega
  have h6:=h6 c4.symm
  rw[f4 c4]at h6
  rw[den_fn t12 _ _ _ rfl]
  simp only[b12]
  rcases hS0 with hS0|hS0
  ·subst hS0
   simp only[es_nil]at h9 h10 h11
   simp (maxSteps:=6000000) (disch:=first|omega|assumption|decide +kernel|(simp;done)|(simp;omega)|fail) [run_drawnK,orSlow_none,appD_full_nil,h1,c1,c2,c2',h2,h3,h4,h5,h6,h7,h8,h9,h10,h11,n1,n2,c4,c4']
  ·simp (maxSteps:=6000000) (disch:=first|omega|assumption|decide +kernel|(simp;done)|(simp;omega)|fail) [run_drawnK,orSlow_none,appD_full,hS0,h1,c1,c2,c2',h2,h3,h4,h5,h6,h7,h8,h9,h10,h11,n1,n2,c4,c4']
 ·have c4': ¬(H.length:Int)=l.length:=by omega
  clear h6
  rw[den_fn t12 _ _ _ rfl]
  simp only[b12]
  rcases hS0 with hS0|hS0
  ·subst hS0
   simp only[es_nil]at h9 h10 h11
   simp (maxSteps:=6000000) (disch:=first|omega|assumption|decide +kernel|(simp;done)|(simp;omega)|fail) [run_drawnK,orSlow_none,appD_full_nil,h1,c1,c2,c2',h2,h3,h4,h5,h7,h8,h9,h10,h11,n1,n2,c4,c4']
  ·simp (maxSteps:=6000000) (disch:=first|omega|assumption|decide +kernel|(simp;done)|(simp;omega)|fail) [run_drawnK,orSlow_none,appD_full,hS0,h1,c1,c2,c2',h2,h3,h4,h5,h7,h8,h9,h10,h11,n1,n2,c4,c4']
end Go.Proofs.YthghcainodgnkaaGreat

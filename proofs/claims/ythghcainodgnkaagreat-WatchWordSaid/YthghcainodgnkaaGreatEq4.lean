/-
  Watch: no span is wider.
-/
import Derived.Test.YthghcainodgnkaaGreatEq3
import Derived.Test.YthghcainodgnkaaGreatEq1
set_option linter.unusedSimpArgs false
set_option linter.unusedVariables false
namespace Go.Proofs.YthghcainodgnkaaGreat
open Go.Ab
theorem fish_in {b:WBook}(hB:bookB b=true)(hne:storiesL b≠[]) {i c:Nat}(hi:i<b.T)(hc:c<b.trap.C):fishV11 b i c=(spanW b i c i (c+1),0):=by
 have e1:b.T=b.trap.times.toNat:=rfl
 have e2:b.trap.C=b.trap.chambers.toNat:=rfl
 have hp:placeB b.trap i c=true:=by
  unfold placeB
  rw[wiB_iff.2 (by omega),wiB_iff.2 (by omega)];rfl
 unfold fishV11
 rw[open11_B hB,hp,if_pos rfl,if_neg hne,if_pos rfl]
 simp only[Int.toNat_natCast]
theorem came_in {b:WBook}(hB:bookB b=true)(hne:storiesL b≠[]) {i:Nat}(hi:i<b.T):cameV11 b 0 i=(spanW b i 0 0 0,0):=by
 have e1:b.T=b.trap.times.toNat:=rfl
 have hp:spanIs b 0 i=true:=by
  unfold spanIs
  rw[wiB_iff.2 (by omega),wiB_iff.2 (by omega),decide_eq_true (by omega)];rfl
 unfold cameV11
 rw[open11_B hB,hp,if_pos rfl,if_neg hne,if_pos rfl]
 simp only[Int.toNat_natCast,Int.toNat_zero]
set_option maxHeartbeats 4000000 in
theorem e_wider_l1(b o:WBook)(hB:bookB b=true)(hO:bookB o=true)(hc:CopyB b)(hco:CopyB o)(hne:storiesL b≠[])(w:Wide b o)(i:Nat)(hi0:i<b.T)(s:Stk):
 Run T b56l1 [(2, .ptr s.length 32 0),(3, .ptr s.length 48 0),(5,i64 (i:Nat)),(6,i64 0)] ([(32, .cell (vB b)),(48, .cell (vB o))]::s)=some (.exit 2,[(2, .ptr s.length 32 0),(3, .ptr s.length 48 0),(5,i64 (i:Nat)),(6,i64 ((List.range b.trap.C).length:Nat)),(26, .bool false)],[(32, .cell (vB b)),(48, .cell (vB o))]::s):=by
 have key:=loop_fold (T:=T) (live:=[2,3,5,6]) (keep:=[32,48]) (b:=d56l1) (List.range b.trap.C) (fun _ _=>True) (fun _ _=>()) (fun k (a:Unit)=>[(2, .ptr s.length 32 0),(3, .ptr s.length 48 0),(5,i64 (i:Nat)),(6,i64 (k:Nat))]) (fun k (a:Unit)=>[(32, .cell (vB b)),(48, .cell (vB o))]::s) (fun(a:Unit)=>(.exit 2,[(2, .ptr s.length 32 0),(3, .ptr s.length 48 0),(5,i64 (i:Nat)),(6,i64 ((List.range b.trap.C).length:Nat)),(26, .bool false)],[(32, .cell (vB b)),(48, .cell (vB o))]::s)) (by simp) ?_ ?_ ?_ () (by simp) [(2, .ptr s.length 32 0),(3, .ptr s.length 48 0),(5,i64 (i:Nat)),(6,i64 0)] ([(32, .cell (vB b)),(48, .cell (vB o))]::s) (by simp) (by simp)
 ·exact key
 ·intro k a hk hi
  try simp only[List.length_range]at hk
  try simp only[List.getElem_range]
  have hok:=bookB_ok hB
  have hoo:=bookB_ok hO
  have hneo:storiesL o≠[]:=by
   obtain⟨l,hl⟩:=List.exists_mem_of_ne_nil _ hne
   exact List.ne_nil_of_mem (w.story l hl)
  have e1:b.T=b.trap.times.toNat:=rfl
  have e2:b.trap.C=b.trap.chambers.toNat:=rfl
  have e3:o.T=b.T:=by show o.trap.times.toNat=b.trap.times.toNat;rw[w.t]
  have e4:o.trap.C=b.trap.C:=by show o.trap.chambers.toNat=b.trap.chambers.toNat;rw[w.c]
  have hcc:=hok.trap.cc
  have hk2:(k:Int)<b.trap.chambers:=by omega
  have hk9:k<1000:=by omega
  have h1:=fun lab s=>e_FishW b hc (trapB_mid (bookB_trap hB)) i k lab s
  have h2:=fun lab s=>e_FishW o hco (trapB_mid (bookB_trap hO)) i k lab s
  rw[fish_in hB hne hi0 hk]at h1
  rw[fish_in hO hneo (by omega) (by omega)]at h2
  have h3:=fun lab s=>e_inside (spanW b i k i (k+1)) (spanW o i k i (k+1)) lab s
  rw[w.span hok hoo hne hi0 (Nat.le_of_lt hk) hi0 hk]at h3
  clear e1 e2 e3 e4 hcc
  generalize spanW b i k i (k+1)=x at*
  generalize spanW o i k i (k+1)=y at*
  simp (maxSteps:=1000000) (disch:=first|omega|assumption|decide +kernel|(simp;done)|(simp;omega)|fail) [run_drawnK,orSlow_none,hk2,h1,h2,h3,wk k (by omega)]
 ·intro k a hk hi
  try simp only[List.length_range]at hk
  try simp only[List.getElem_range]
  try simp
 ·intro a hi
  have hcc:=(bookB_ok hB).trap.cc
  have e2:b.trap.C=b.trap.chambers.toNat:=rfl
  have hz:((b.trap.C:Nat):Int)=b.trap.chambers:=by omega
  simp only[List.length_range,hz]
  simp
set_option maxHeartbeats 4000000 in
theorem e_wider_l0(b o:WBook)(hB:bookB b=true)(hO:bookB o=true)(hc:CopyB b)(hco:CopyB o)(hne:storiesL b≠[])(w:Wide b o)(s:Stk):
 Run T b56l0 [(2, .ptr s.length 32 0),(3, .ptr s.length 48 0),(5,i64 0)] ([(32, .cell (vB b)),(48, .cell (vB o))]::s)=some (.exit 0,[(2, .ptr s.length 32 0),(3, .ptr s.length 48 0),(5,i64 ((List.range b.T).length:Nat)),(19, .bool false)],[(32, .cell (vB b)),(48, .cell (vB o))]::s):=by
 have key:=loop_fold (T:=T) (live:=[2,3,5]) (keep:=[32,48]) (b:=d56l0) (List.range b.T) (fun _ _=>True) (fun _ _=>()) (fun k (a:Unit)=>[(2, .ptr s.length 32 0),(3, .ptr s.length 48 0),(5,i64 (k:Nat))]) (fun k (a:Unit)=>[(32, .cell (vB b)),(48, .cell (vB o))]::s) (fun(a:Unit)=>(.exit 0,[(2, .ptr s.length 32 0),(3, .ptr s.length 48 0),(5,i64 ((List.range b.T).length:Nat)),(19, .bool false)],[(32, .cell (vB b)),(48, .cell (vB o))]::s)) (by simp) ?_ ?_ ?_ () (by simp) [(2, .ptr s.length 32 0),(3, .ptr s.length 48 0),(5,i64 0)] ([(32, .cell (vB b)),(48, .cell (vB o))]::s) (by simp) (by simp)
 ·exact key
 ·intro k a hk hi
  try simp only[List.length_range]at hk
  try simp only[List.getElem_range]
  have hok:=bookB_ok hB
  have hoo:=bookB_ok hO
  have hneo:storiesL o≠[]:=by
   obtain⟨l,hl⟩:=List.exists_mem_of_ne_nil _ hne
   exact List.ne_nil_of_mem (w.story l hl)
  have e1:b.T=b.trap.times.toNat:=rfl
  have e3:o.T=b.T:=by show o.trap.times.toNat=b.trap.times.toNat;rw[w.t]
  have htt:=hok.trap.tt
  have hk2:(k:Int)<b.trap.times:=by omega
  have hk9:k<1000:=by omega
  have h0:=e_wider_l1 b o hB hO hc hco hne w k hk s
  have h1:=fun lab s=>e_CameW b hc (trapB_mid (bookB_trap hB)) 0 k lab s
  have h2:=fun lab s=>e_CameW o hco (trapB_mid (bookB_trap hO)) 0 k lab s
  rw[came_in hB hne hk]at h1
  rw[came_in hO hneo (by omega)]at h2
  have h3:=fun lab s=>e_inside (spanW b k 0 0 0) (spanW o k 0 0 0) lab s
  rw[w.span hok hoo hne hk (Nat.zero_le _) hok.pos (Nat.zero_le _)]at h3
  clear e1 e3 htt
  generalize spanW b k 0 0 0=x at*
  generalize spanW o k 0 0 0=y at*
  generalize b.trap.C=C at*
  simp (maxSteps:=1000000) (disch:=first|omega|assumption|decide +kernel|(simp;done)|(simp;omega)|fail) [run_drawnK,orSlow_none,hk2,h0,h1,h2,h3,wk k (by omega)]
 ·intro k a hk hi
  try simp only[List.length_range]at hk
  try simp only[List.getElem_range]
  try simp
 ·intro a hi
  have htt:=(bookB_ok hB).trap.tt
  have e2:b.T=b.trap.times.toNat:=rfl
  have hz:((b.T:Nat):Int)=b.trap.times:=by omega
  simp only[List.length_range,hz]
  simp
theorem e_wider(b o:WBook)(hB:bookB b=true)(hO:bookB o=true)(hc:CopyB b)(hco:CopyB o)(hne:storiesL b≠[])(w:Wide b o)(lab s):den T 56 [.agg (vB b), .agg (vB o)] lab s=some (.bool true,s):=by
 have h:=e_wider_l0 b o hB hO hc hco hne w s
 generalize b.T=n at*
 rw[den_fn t56 _ _ _ rfl]
 simp only[b56]
 simp (maxSteps:=1000000) (disch:=first|omega|assumption|decide +kernel|(simp;done)|(simp;omega)|fail) [h]
end Go.Proofs.YthghcainodgnkaaGreat

/-
  Watch: WatchWord (not built yet).
-/
namespace Go.Proofs.YthghcainodgnkaaGreat
open Go.Ab
theorem CopyW.short {b:WBook}(h:CopyW b):ShortB b:=by
 obtain⟨h1,h2,h3,h4⟩:=h
 exact⟨⟨by omega,by omega,fun l hl=>by have:=h3 l hl;omega⟩,by omega⟩
theorem told_facts {b o:WBook} {w:CWord}(h:Told b o w)(hB:bookB b=true)(hO:bookB o=true):(storiesL o).length≤(storiesL b).length∧falseN b≤falseN o∧(storiesL o≠[]→Wide o b):=by
 have hb:=bookB_ok hB
 have ho:=bookB_ok hO
 have hw:=h.wide hb ho
 refine⟨stories_sub h.t.symm fun l hl=> ?_,?_,fun _=>hw⟩
 ·obtain⟨h3,h4⟩:=story_can hl
  simp only[storyB,Bool.and_eq_true]
  exact⟨by rw[←h.can];exact h3,one_mono (h.less l) (trapOf_ok ho l) (trapOf_ok hb l) h4⟩
 ·unfold falseN
  by_cases e:storiesL o=[]
  ·rw[if_pos e]
   by_cases e2:storiesL b=[]
   ·rw[if_pos e2];exact Int.le_refl _
   ·rw[if_neg e2]
    have:=blame_len hB e2
    omega
  ·have e2:storiesL b≠[]:=by
    obtain⟨l,hl⟩:=List.exists_mem_of_ne_nil _ e
    exact List.ne_nil_of_mem (hw.story l hl)
   rw[if_neg e,if_neg e2]
   have:=h.false hb ho e2 e
   omega
set_option maxHeartbeats 16000000 in
theorem e_WatchWord_00(b:WBook)(hc:CopyW b)(w:CWord)(hw:b.trap.words=[])(h0:b.sober=[])(lab s):den T 10 [.agg (vB b), .agg (cWord w)] lab s=some (.bool true,s):=by
 have hC:=fun(loc:Ab.Loc) s lab k0=>e_Copy11_00 b hc loc s lab hw h0 k0
 have hsb:=hc.short
 obtain⟨o,ho⟩: ∃o:WBook,o= {b with trap:=toldT b.trap w}:=⟨_,rfl⟩
 have hT:Told b o w:=by subst ho;exact⟨rfl,rfl,rfl,rfl⟩
 have q2:=hc.words
 have hso:ShortB o:=by
  subst ho
  exact⟨⟨hsb.trap.opn,by show(b.trap.words ++[w]).length<_;rw[List.length_append,List.length_singleton];omega,hsb.trap.each⟩,hsb.sober⟩
 have eo:vB o=[i64 b.trap.chambers,i64 b.trap.times, .sl .no 1 (es cInts b.trap.opn), .sl .no 4 (es cWord [w]),i64 b.drunk,i64 b.run, .sl .no 1 []]:=by
  subst ho
  simp[vB,toldT,hw,h0,es]
 clear ho
 have e0:es cWord b.trap.words ++[[i64 w.time,i64 w.chamber,i64 w.lo,i64 w.hi]]=es cWord (b.trap.words ++[w]):=by simp[es]
 have e1:[[i64 w.time,i64 w.chamber,i64 w.lo,i64 w.hi]]=es cWord [w]:=rfl
 have q3:(b.trap.words.length+1)*32≤140737488355328:=by omega
 have h1:=fun lab s=>e_ready b hsb lab s
 have h2:=fun lab s=>e_ready o hso lab s
 rw[eo]at h2
 cases c1:readyK b
 ·clear h2 hsb hso hT
  rw[den_fn t10 _ _ _ rfl]
  simp only[b10]
  simp (maxSteps:=6000000) (disch:=first|omega|assumption|decide +kernel|(simp;done)|(simp;omega)|fail) [run_drawnK,orSlow_none,hC,e1,appK_own1,appK_full,q3,h1,c1]
 cases c2:readyK o
 ·clear hsb hso hT
  rw[den_fn t10 _ _ _ rfl]
  simp only[b10]
  simp (maxSteps:=6000000) (disch:=first|omega|assumption|decide +kernel|(simp;done)|(simp;omega)|fail) [run_drawnK,orSlow_none,hC,e1,appK_own1,appK_full,q3,h1,c1,h2,c2]
 obtain⟨hcb,hB,_⟩:=readyK_ok c1
 obtain⟨hco,hO,_⟩:=readyK_ok c2
 obtain⟨t1,t2,t3⟩:=told_facts hT hB hO
 have h3:=fun lab s=>e_stories11 b hB hcb lab s
 have h4:=fun lab s=>e_stories11 o hO hco lab s
 have h5:=fun lab s=>e_lies11 b hB hcb lab s
 have h6:=fun lab s=>e_lies11 o hO hco lab s
 have h7:=fun hne lab s=>e_wider o b hO hB hco hcb hne (t3 hne) lab s
 rw[eo]at h4 h6 h7
 have n1: ¬((storiesL b).length:Int)<0:=by omega
 have n2: ¬((storiesL o).length:Int)<0:=by omega
 have n3: ¬((storiesL b).length:Int)<(storiesL o).length:=by omega
 have n4: ¬falseN o<falseN b:=by omega
 clear hsb hso hT t1 t2 t3 eo hcb hco hB hO
 generalize falseN b=f1 at*
 generalize falseN o=f2 at*
 generalize (storiesL b).length=L1 at*
 by_cases hne:storiesL o=[]
 ·rw[hne]at h4 n3
  clear h7 n2
  simp only[List.length_nil,Int.natCast_zero]at h4 n3
  rw[den_fn t10 _ _ _ rfl]
  simp only[b10]
  simp (maxSteps:=6000000) (disch:=first|omega|assumption|decide +kernel|(simp;done)|(simp;omega)|fail) [run_drawnK,orSlow_none,hC,e1,appK_own1,appK_full,q3,h1,c1,h2,c2,h3,h4,h5,h6,n1,n3,n4]
 ·have h7:=h7 hne
  have n5: ¬((storiesL o).length:Int)=0:=by have:=List.length_pos_iff.2 hne;omega
  have n6: ¬(storiesL o).length=0:=by omega
  clear hne
  generalize (storiesL o).length=L2 at*
  rw[den_fn t10 _ _ _ rfl]
  simp only[b10]
  simp (maxSteps:=6000000) (disch:=first|omega|assumption|decide +kernel|(simp;done)|(simp;omega)|fail) [run_drawnK,orSlow_none,hC,e1,appK_own1,appK_full,q3,h1,c1,h2,c2,h3,h4,h5,h6,h7,n1,n2,n3,n4,n5,n6]
set_option maxHeartbeats 16000000 in
theorem e_WatchWord_01(b:WBook)(hc:CopyW b)(w:CWord)(hw:b.trap.words=[])(h0:b.sober≠[])(lab s):den T 10 [.agg (vB b), .agg (cWord w)] lab s=some (.bool true,s):=by
 have hC:=fun(loc:Ab.Loc) s lab k0 k1=>e_Copy11_01 b hc loc s lab hw h0 k0 k1
 have hsb:=hc.short
 obtain⟨o,ho⟩: ∃o:WBook,o= {b with trap:=toldT b.trap w}:=⟨_,rfl⟩
 have hT:Told b o w:=by subst ho;exact⟨rfl,rfl,rfl,rfl⟩
 have q2:=hc.words
 have hso:ShortB o:=by
  subst ho
  exact⟨⟨hsb.trap.opn,by show(b.trap.words ++[w]).length<_;rw[List.length_append,List.length_singleton];omega,hsb.trap.each⟩,hsb.sober⟩
 have eo:vB o=[i64 b.trap.chambers,i64 b.trap.times, .sl .no 1 (es cInts b.trap.opn), .sl .no 4 (es cWord [w]),i64 b.drunk,i64 b.run, .sl .no 1 (es cInt b.sober)]:=by
  subst ho
  simp[vB,toldT,hw,h0,es]
 clear ho
 have e0:es cWord b.trap.words ++[[i64 w.time,i64 w.chamber,i64 w.lo,i64 w.hi]]=es cWord (b.trap.words ++[w]):=by simp[es]
 have e1:[[i64 w.time,i64 w.chamber,i64 w.lo,i64 w.hi]]=es cWord [w]:=rfl
 have q3:(b.trap.words.length+1)*32≤140737488355328:=by omega
 have h1:=fun lab s=>e_ready b hsb lab s
 have h2:=fun lab s=>e_ready o hso lab s
 rw[eo]at h2
 cases c1:readyK b
 ·clear h2 hsb hso hT
  rw[den_fn t10 _ _ _ rfl]
  simp only[b10]
  simp (maxSteps:=6000000) (disch:=first|omega|assumption|decide +kernel|(simp;done)|(simp;omega)|fail) [run_drawnK,orSlow_none,hC,e1,appK_own1,appK_full,q3,h1,c1]
 cases c2:readyK o
 ·clear hsb hso hT
  rw[den_fn t10 _ _ _ rfl]
  simp only[b10]
  simp (maxSteps:=6000000) (disch:=first|omega|assumption|decide +kernel|(simp;done)|(simp;omega)|fail) [run_drawnK,orSlow_none,hC,e1,appK_own1,appK_full,q3,h1,c1,h2,c2]
 obtain⟨hcb,hB,_⟩:=readyK_ok c1
 obtain⟨hco,hO,_⟩:=readyK_ok c2
 obtain⟨t1,t2,t3⟩:=told_facts hT hB hO
 have h3:=fun lab s=>e_stories11 b hB hcb lab s
 have h4:=fun lab s=>e_stories11 o hO hco lab s
 have h5:=fun lab s=>e_lies11 b hB hcb lab s
 have h6:=fun lab s=>e_lies11 o hO hco lab s
 have h7:=fun hne lab s=>e_wider o b hO hB hco hcb hne (t3 hne) lab s
 rw[eo]at h4 h6 h7
 have n1: ¬((storiesL b).length:Int)<0:=by omega
 have n2: ¬((storiesL o).length:Int)<0:=by omega
 have n3: ¬((storiesL b).length:Int)<(storiesL o).length:=by omega
 have n4: ¬falseN o<falseN b:=by omega
 clear hsb hso hT t1 t2 t3 eo hcb hco hB hO
 generalize falseN b=f1 at*
 generalize falseN o=f2 at*
 generalize (storiesL b).length=L1 at*
 by_cases hne:storiesL o=[]
 ·rw[hne]at h4 n3
  clear h7 n2
  simp only[List.length_nil,Int.natCast_zero]at h4 n3
  rw[den_fn t10 _ _ _ rfl]
  simp only[b10]
  simp (maxSteps:=6000000) (disch:=first|omega|assumption|decide +kernel|(simp;done)|(simp;omega)|fail) [run_drawnK,orSlow_none,hC,e1,appK_own1,appK_full,q3,h1,c1,h2,c2,h3,h4,h5,h6,n1,n3,n4]
 ·have h7:=h7 hne
  have n5: ¬((storiesL o).length:Int)=0:=by have:=List.length_pos_iff.2 hne;omega
  have n6: ¬(storiesL o).length=0:=by omega
  clear hne
  generalize (storiesL o).length=L2 at*
  rw[den_fn t10 _ _ _ rfl]
  simp only[b10]
  simp (maxSteps:=6000000) (disch:=first|omega|assumption|decide +kernel|(simp;done)|(simp;omega)|fail) [run_drawnK,orSlow_none,hC,e1,appK_own1,appK_full,q3,h1,c1,h2,c2,h3,h4,h5,h6,h7,n1,n2,n3,n4,n5,n6]
set_option maxHeartbeats 16000000 in
theorem e_WatchWord_10(b:WBook)(hc:CopyW b)(w:CWord)(hw:b.trap.words≠[])(h0:b.sober=[])(lab s):den T 10 [.agg (vB b), .agg (cWord w)] lab s=some (.bool true,s):=by
 have hC:=fun(loc:Ab.Loc) s lab k0 k1=>e_Copy11_10 b hc loc s lab hw h0 k0 k1
 have hsb:=hc.short
 obtain⟨o,ho⟩: ∃o:WBook,o= {b with trap:=toldT b.trap w}:=⟨_,rfl⟩
 have hT:Told b o w:=by subst ho;exact⟨rfl,rfl,rfl,rfl⟩
 have q2:=hc.words
 have hso:ShortB o:=by
  subst ho
  exact⟨⟨hsb.trap.opn,by show(b.trap.words ++[w]).length<_;rw[List.length_append,List.length_singleton];omega,hsb.trap.each⟩,hsb.sober⟩
 have eo:vB o=[i64 b.trap.chambers,i64 b.trap.times, .sl .no 1 (es cInts b.trap.opn), .sl .no 4 (es cWord (b.trap.words ++[w])),i64 b.drunk,i64 b.run, .sl .no 1 []]:=by
  subst ho
  simp[vB,toldT,hw,h0,es]
 clear ho
 have e0:es cWord b.trap.words ++[[i64 w.time,i64 w.chamber,i64 w.lo,i64 w.hi]]=es cWord (b.trap.words ++[w]):=by simp[es]
 have e1:[[i64 w.time,i64 w.chamber,i64 w.lo,i64 w.hi]]=es cWord [w]:=rfl
 have q3:(b.trap.words.length+1)*32≤140737488355328:=by omega
 have h1:=fun lab s=>e_ready b hsb lab s
 have h2:=fun lab s=>e_ready o hso lab s
 rw[eo]at h2
 cases c1:readyK b
 ·clear h2 hsb hso hT
  rw[den_fn t10 _ _ _ rfl]
  simp only[b10]
  simp (maxSteps:=6000000) (disch:=first|omega|assumption|decide +kernel|(simp;done)|(simp;omega)|fail) [run_drawnK,orSlow_none,hC,e0,appK_own1,appK_full,q3,h1,c1]
 cases c2:readyK o
 ·clear hsb hso hT
  rw[den_fn t10 _ _ _ rfl]
  simp only[b10]
  simp (maxSteps:=6000000) (disch:=first|omega|assumption|decide +kernel|(simp;done)|(simp;omega)|fail) [run_drawnK,orSlow_none,hC,e0,appK_own1,appK_full,q3,h1,c1,h2,c2]
 obtain⟨hcb,hB,_⟩:=readyK_ok c1
 obtain⟨hco,hO,_⟩:=readyK_ok c2
 obtain⟨t1,t2,t3⟩:=told_facts hT hB hO
 have h3:=fun lab s=>e_stories11 b hB hcb lab s
 have h4:=fun lab s=>e_stories11 o hO hco lab s
 have h5:=fun lab s=>e_lies11 b hB hcb lab s
 have h6:=fun lab s=>e_lies11 o hO hco lab s
 have h7:=fun hne lab s=>e_wider o b hO hB hco hcb hne (t3 hne) lab s
 rw[eo]at h4 h6 h7
 have n1: ¬((storiesL b).length:Int)<0:=by omega
 have n2: ¬((storiesL o).length:Int)<0:=by omega
 have n3: ¬((storiesL b).length:Int)<(storiesL o).length:=by omega
 have n4: ¬falseN o<falseN b:=by omega
 clear hsb hso hT t1 t2 t3 eo hcb hco hB hO
 generalize falseN b=f1 at*
 generalize falseN o=f2 at*
 generalize (storiesL b).length=L1 at*
 by_cases hne:storiesL o=[]
 ·rw[hne]at h4 n3
  clear h7 n2
  simp only[List.length_nil,Int.natCast_zero]at h4 n3
  rw[den_fn t10 _ _ _ rfl]
  simp only[b10]
  simp (maxSteps:=6000000) (disch:=first|omega|assumption|decide +kernel|(simp;done)|(simp;omega)|fail) [run_drawnK,orSlow_none,hC,e0,appK_own1,appK_full,q3,h1,c1,h2,c2,h3,h4,h5,h6,n1,n3,n4]
 ·have h7:=h7 hne
  have n5: ¬((storiesL o).length:Int)=0:=by have:=List.length_pos_iff.2 hne;omega
  have n6: ¬(storiesL o).length=0:=by omega
  clear hne
  generalize (storiesL o).length=L2 at*
  rw[den_fn t10 _ _ _ rfl]
  simp only[b10]
  simp (maxSteps:=6000000) (disch:=first|omega|assumption|decide +kernel|(simp;done)|(simp;omega)|fail) [run_drawnK,orSlow_none,hC,e0,appK_own1,appK_full,q3,h1,c1,h2,c2,h3,h4,h5,h6,h7,n1,n2,n3,n4,n5,n6]
set_option maxHeartbeats 16000000 in
theorem e_WatchWord_11(b:WBook)(hc:CopyW b)(w:CWord)(hw:b.trap.words≠[])(h0:b.sober≠[])(lab s):den T 10 [.agg (vB b), .agg (cWord w)] lab s=some (.bool true,s):=by
 have hC:=fun(loc:Ab.Loc) s lab k0 k1 k2=>e_Copy11_11 b hc loc s lab hw h0 k0 k1 k2
 have hsb:=hc.short
 obtain⟨o,ho⟩: ∃o:WBook,o= {b with trap:=toldT b.trap w}:=⟨_,rfl⟩
 have hT:Told b o w:=by subst ho;exact⟨rfl,rfl,rfl,rfl⟩
 have q2:=hc.words
 have hso:ShortB o:=by
  subst ho
  exact⟨⟨hsb.trap.opn,by show(b.trap.words ++[w]).length<_;rw[List.length_append,List.length_singleton];omega,hsb.trap.each⟩,hsb.sober⟩
 have eo:vB o=[i64 b.trap.chambers,i64 b.trap.times, .sl .no 1 (es cInts b.trap.opn), .sl .no 4 (es cWord (b.trap.words ++[w])),i64 b.drunk,i64 b.run, .sl .no 1 (es cInt b.sober)]:=by
  subst ho
  simp[vB,toldT,hw,h0,es]
 clear ho
 have e0:es cWord b.trap.words ++[[i64 w.time,i64 w.chamber,i64 w.lo,i64 w.hi]]=es cWord (b.trap.words ++[w]):=by simp[es]
 have e1:[[i64 w.time,i64 w.chamber,i64 w.lo,i64 w.hi]]=es cWord [w]:=rfl
 have q3:(b.trap.words.length+1)*32≤140737488355328:=by omega
 have h1:=fun lab s=>e_ready b hsb lab s
 have h2:=fun lab s=>e_ready o hso lab s
 rw[eo]at h2
 cases c1:readyK b
 ·clear h2 hsb hso hT
  rw[den_fn t10 _ _ _ rfl]
  simp only[b10]
  simp (maxSteps:=6000000) (disch:=first|omega|assumption|decide +kernel|(simp;done)|(simp;omega)|fail) [run_drawnK,orSlow_none,hC,e0,appK_own1,appK_full,q3,h1,c1]
 cases c2:readyK o
 ·clear hsb hso hT
  rw[den_fn t10 _ _ _ rfl]
  simp only[b10]
  simp (maxSteps:=6000000) (disch:=first|omega|assumption|decide +kernel|(simp;done)|(simp;omega)|fail) [run_drawnK,orSlow_none,hC,e0,appK_own1,appK_full,q3,h1,c1,h2,c2]
 obtain⟨hcb,hB,_⟩:=readyK_ok c1
 obtain⟨hco,hO,_⟩:=readyK_ok c2
 obtain⟨t1,t2,t3⟩:=told_facts hT hB hO
 have h3:=fun lab s=>e_stories11 b hB hcb lab s
 have h4:=fun lab s=>e_stories11 o hO hco lab s
 have h5:=fun lab s=>e_lies11 b hB hcb lab s
 have h6:=fun lab s=>e_lies11 o hO hco lab s
 have h7:=fun hne lab s=>e_wider o b hO hB hco hcb hne (t3 hne) lab s
 rw[eo]at h4 h6 h7
 have n1: ¬((storiesL b).length:Int)<0:=by omega
 have n2: ¬((storiesL o).length:Int)<0:=by omega
 have n3: ¬((storiesL b).length:Int)<(storiesL o).length:=by omega
 have n4: ¬falseN o<falseN b:=by omega
 clear hsb hso hT t1 t2 t3 eo hcb hco hB hO
 generalize falseN b=f1 at*
 generalize falseN o=f2 at*
 generalize (storiesL b).length=L1 at*
 by_cases hne:storiesL o=[]
 ·rw[hne]at h4 n3
  clear h7 n2
  simp only[List.length_nil,Int.natCast_zero]at h4 n3
  rw[den_fn t10 _ _ _ rfl]
  simp only[b10]
  simp (maxSteps:=6000000) (disch:=first|omega|assumption|decide +kernel|(simp;done)|(simp;omega)|fail) [run_drawnK,orSlow_none,hC,e0,appK_own1,appK_full,q3,h1,c1,h2,c2,h3,h4,h5,h6,n1,n3,n4]
 ·have h7:=h7 hne
  have n5: ¬((storiesL o).length:Int)=0:=by have:=List.length_pos_iff.2 hne;omega
  have n6: ¬(storiesL o).length=0:=by omega
  clear hne
  generalize (storiesL o).length=L2 at*
  rw[den_fn t10 _ _ _ rfl]
  simp only[b10]
  simp (maxSteps:=6000000) (disch:=first|omega|assumption|decide +kernel|(simp;done)|(simp;omega)|fail) [run_drawnK,orSlow_none,hC,e0,appK_own1,appK_full,q3,h1,c1,h2,c2,h3,h4,h5,h6,h7,n1,n2,n3,n4,n5,n6]
theorem e_WatchWord(b:WBook)(hc:CopyW b)(w:CWord)(lab s):den T 10 [.agg (vB b), .agg (cWord w)] lab s=some (.bool true,s):=by
 by_cases hw:b.trap.words=[]<;>by_cases h0:b.sober=[]
 ·exact e_WatchWord_00 b hc w hw h0 lab s
 ·exact e_WatchWord_01 b hc w hw h0 lab s
 ·exact e_WatchWord_10 b hc w hw h0 lab s
 ·exact e_WatchWord_11 b hc w hw h0 lab s
end Go.Proofs.YthghcainodgnkaaGreat

/-
  Watch: what a book reads as, for its copy (not built yet).
-/
namespace Go.Proofs.YthghcainodgnkaaGreat
open Go.Ab
set_option maxRecDepth 100000
variable {n : Nat} {vs : List V}
theorem fit_bookW(h:Fit Tryz.prog Reach (n+5) 28 vs): ∃b:WBook,vs=vB b∧CopyW b:=by
 rw[Fit,Tryz.underlying28]at h
 simp only[FitF]at h
 obtain⟨_,_,rfl,h0,_,_,rfl,h1,_,_,rfl,h2,_,_,rfl,h3,rfl⟩:=h
 rw[Fit,Tryz.underlying25]at h0
 simp only[FitF]at h0
 obtain⟨_,_,rfl,g0,_,_,rfl,g1,_,_,rfl,g2,_,_,rfl,g3,rfl⟩:=h0
 obtain⟨a0,rfl⟩:=fit_int g0
 obtain⟨b0,rfl⟩:=fit_int g1
 obtain⟨c0,rfl,q1,q2⟩:=fit_lists g2
 obtain⟨d0,rfl,q3⟩:=fit_words g3
 obtain⟨a,rfl⟩:=fit_int h1
 obtain⟨c,rfl⟩:=fit_int h2
 obtain⟨d,rfl,q4⟩:=fit_ints h3
 simp only[Reach,bytes26,bytes3,bytes57,reachBytes]at q1 q2 q3 q4
 exact⟨⟨⟨a0,b0,c0,d0⟩,a,c,d⟩,rfl,by show c0.length<_;omega,by show d0.length<_;omega,fun l hl=>by have:=q2 l hl;omega,by show d.length<_;omega⟩
end Go.Proofs.YthghcainodgnkaaGreat

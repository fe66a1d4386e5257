/-
  Watch, laws: the examples, works (not built yet).
-/
import Derived.Test.YthghcainodgnkaaGreatEq3
import Derived.Test.YthghcainodgnkaaGreatEq1
set_option linter.unusedSimpArgs false
set_option linter.unusedVariables false
namespace Go.Proofs.YthghcainodgnkaaGreat
open Go.Ab
theorem e_word11(a b c d:Int)(lab s):den T 117 [i64 a,i64 b,i64 c,i64 d] lab s=some (.agg [i64 a,i64 b,i64 c,i64 d],s):=by
 rw[den_fn t117 _ _ _ rfl]
 simp only[b117]
 simp (maxSteps:=1000000) (disch:=first|omega|assumption|decide +kernel|(simp;done)|(simp;omega)|fail) []
theorem exB_copy:CopyB exB:=hugeK_copy (by decide)
theorem exC_copy:CopyB exC:=hugeK_copy (by decide)
theorem exB_ok:bookB exB=true:=by decide +kernel
theorem exC_ok:bookB exC=true:=by decide +kernel
theorem exB_mid:Mid exB.trap:=trapB_mid (bookB_trap exB_ok)
set_option maxHeartbeats 2000000 in
theorem e_Example11(lab s):den T 73 [] lab s=some (.tup [.agg (vB exB), .agg (vB exC)],s):=by
 have hC:=fun lab s=>e_Copy11 exB exB_copy lab s
 simp only[vB,exB,exC,es,List.map_cons,List.map_nil,cInts_eq,cInts,cInt,cWord]at hC⊢
 rw[den_fn t73 _ _ _ rfl]
 simp only[b73]
 simp (maxSteps:=6000000) (disch:=first|omega|assumption|decide +kernel|(simp;done)|(simp;omega)|fail) [run_drawnK,orSlow_none,e_word11,hC]
set_option maxHeartbeats 4000000 in
@[simp] theorem e_works11(lab s):den T 17 [] lab s=some (.bool true,s):=by
 have o1:open11 exB true=0:=by unfold open11 ask11;rw[exB_ok];simp[ex_someB]
 have h1:=fun lab s=>e_StoriesW exC exC_copy lab s
 have h2:=fun lab s=>e_LeastW exB exB_copy lab s
 have h3:=fun lab s=>e_MustW exB exB_copy lab s
 have h4:=fun lab s=>e_LiesW exB exB_copy 2 lab s
 have h5:=fun lab s=>e_FishW exB exB_copy exB_mid 1 0 lab s
 have h6:=fun lab s=>e_BlameW exB exB_copy lab s
 have h7:=fun lab s=>e_Example11 lab s
 have e4:liesV11 exB 2=(2,0):=by
  have:wiB 2 0 ((exB.trap.words.length:Int)-1)=true:=by decide
  unfold liesV11;rw[this,o1,if_pos rfl,ex_liesB]
 have e5:fishV11 exB 1 0=(⟨2,9⟩,0):=by
  have:placeB exB.trap 1 0=true:=by decide
  unfold fishV11;rw[this,o1,if_pos rfl]
  exact congrArg (fun x=>(x,(0:Int))) ex_spanB
 rw[exC_ok,if_pos rfl,if_pos rfl,ex_storiesC]at h1
 rw[o1,if_pos rfl,ex_storiesB]at h2
 rw[o1,if_pos rfl,ex_mustB]at h3
 rw[o1,if_pos rfl,ex_blameB]at h6
 rw[e4]at h4
 rw[e5]at h5
 have s1: ∀(F:Ab.Loc) lab,den T 34 [.sl .no 1 (es cInt [0,3]), .sl .no 1 [[i64 0],[i64 3]]] lab (F::s)=some (.bool true,F::s):=fun F lab=>(e_Same2 [0,3] [0,3] (by decide) (by decide) lab (F::s)).trans rfl
 have s2: ∀(F:Ab.Loc) lab,den T 34 [.sl .no 1 (es cInt [3]), .sl .no 1 [[i64 3]]] lab (F::s)=some (.bool true,F::s):=fun F lab=>(e_Same2 [3] [3] (by decide) (by decide) lab (F::s)).trans rfl
 generalize exB=B at*
 generalize exC=C at*
 generalize ([0,3]:List Int)=L03 at*
 generalize ([3]:List Int)=L3 at*
 rw[den_fn t17 _ _ _ rfl]
 simp only[b17]
 simp (maxSteps:=6000000) (disch:=first|omega|assumption|decide +kernel|(simp;done)|(simp;omega)|fail) [run_drawnK,orSlow_none,h1,h2,h3,h4,h5,h6,h7,s1,s2,-e_Same2,eqCells]
end Go.Proofs.YthghcainodgnkaaGreat

/-
  Watch, laws: small helpers (not built yet).
-/
namespace Go.Proofs.YthghcainodgnkaaGreat
open Go.Ab
theorem e_isKnown(e:Int)(lab s):den T 23 [i64 e] lab s=some (.bool (decide (e=0)||decide (e=3)),s):=by
 rw[den_fn t23 _ _ _ rfl]
 simp only[b23]
 by_cases h:e=0
 ·simp (maxSteps:=1000000) (disch:=first|omega|assumption|decide +kernel|(simp;done)|(simp;omega)|fail) [h]
 ·by_cases h2:e=3<;>simp (maxSteps:=1000000) (disch:=first|omega|assumption|decide +kernel|(simp;done)|(simp;omega)|fail) [h,h2]
theorem stories_32 {b:WBook}(h:bookB b=true):(storiesL b).length≤32:=by
 have hT:=(bookB_ok h).t6
 have h1:(storiesL b).length≤(allL b.T).length:=List.length_filter_le ..
 have h2: ∀T,T<6→(allL T).length≤32:=by decide +kernel
 exact Nat.le_trans h1 (h2 _ hT)
theorem e_stories11(b:WBook)(hB:bookB b=true)(hc:CopyB b)(lab s):den T 55 [.agg (vB b)] lab s=some (i64 ((storiesL b).length:Nat),s):=by
 have h1:=fun lab s=>e_StoriesW b hc lab s
 rw[hB,if_pos rfl,if_pos rfl]at h1
 have h2:=stories_32 hB
 generalize (storiesL b).length=n at*
 have n1: ¬(n:Int)<0:=by omega
 have n2: ¬(32:Int)<n:=by omega
 rw[den_fn t55 _ _ _ rfl]
 simp only[b55]
 simp (maxSteps:=1000000) (disch:=first|omega|assumption|decide +kernel|(simp;done)|(simp;omega)|fail) [h1,n1,n2]
theorem open11_B {b:WBook}(h:bookB b=true) {is:Bool}:open11 b is=if is=true then(if storiesL b=[]then 3 else 0)else 1:=by
 unfold open11 ask11
 rw[h]
 cases is<;>simp
end Go.Proofs.YthghcainodgnkaaGreat

/-
  Watch: WatchGood (not built yet).
-/
namespace Go.Proofs.YthghcainodgnkaaGreat
open Go.Ab
end Go.Proofs.YthghcainodgnkaaGreat

/-
  Watch, laws: books that are not valid, of any numbers (not built yet).
-/
namespace Go.Proofs.YthghcainodgnkaaGreat
open Go.Ab
section
variable (b : WBook) (hc : CopyB b) (hB : bookB b = false)
include hc hB
end
end Go.Proofs.YthghcainodgnkaaGreat

/-
  Watch: WatchDrunk, WatchLies, WatchFish (not built yet).
-/
namespace Go.Proofs.YthghcainodgnkaaGreat
open Go.Ab
end Go.Proofs.YthghcainodgnkaaGreat

/-
  Watch: WatchSober (not built yet).
-/
namespace Go.Proofs.YthghcainodgnkaaGreat
open Go.Ab
end Go.Proofs.YthghcainodgnkaaGreat

/-
  Watch: WatchBlame.
-/
namespace Go.Proofs.YthghcainodgnkaaGreat
open Go.Ab
end Go.Proofs.YthghcainodgnkaaGreat

/-
  Watch: WatchWithout.
-/
namespace Go.Proofs.YthghcainodgnkaaGreat
open Go.Ab
end Go.Proofs.YthghcainodgnkaaGreat

/-
  Watch: no span is wider.
-/
namespace Go.Proofs.YthghcainodgnkaaGreat
open Go.Ab
end Go.Proofs.YthghcainodgnkaaGreat

/-
  Watch: WatchMore.
-/
namespace Go.Proofs.YthghcainodgnkaaGreat
open Go.Ab
end Go.Proofs.YthghcainodgnkaaGreat

/-
  Watch: a time that is sober.
-/
namespace Go.Proofs.YthghcainodgnkaaGreat
open Go.Ab
def pickSo(b:WBook)(n:Int)(a:List Int)(k:Nat):List Int:=if (decide ((k:Int)=n)||b.sober.contains (k:Int))=true then a ++[(k:Int)]else a
theorem pickSo_fold(b:WBook)(n:Int): ∀(l:List Nat) (a:List Int),l.foldl (pickSo b n) a=a ++((l.filter fun(k:Nat)=>decide ((k:Int)=n)||b.sober.contains (k:Int)).map fun(k:Nat)=>(k:Int))
 |[],a=>by simp
 |k::l,a=>by
   rw[List.foldl_cons,pickSo_fold b n l,List.filter_cons]
   unfold pickSo
   cases (decide ((k:Int)=n)||b.sober.contains (k:Int))<;>simp
def sobF(b:WBook)(d:Nat)(a:List Int):Ab.Loc:=[(32, .cell (vB b)),(64, .cell [i64 0,i64 0, .sl .full 1 [], .sl .full 4 [],i64 0,i64 0, .sl .full 1 []]),(80, .cell [i64 b.trap.chambers,i64 b.trap.times, .sl .no 1 (es cInts b.trap.opn), .sl .no 4 (es cWord b.trap.words),i64 b.drunk,i64 b.run, .sl (.own d 88) 1 (es cInt a)]),(88, .tok a.length)]
set_option maxHeartbeats 4000000 in
theorem e_sobered_l(b:WBook)(hB:bookB b=true)(hc:CopyB b)(n:Int)(s:Stk):
 Run T b61l0 [(1,i64 n),(2, .ptr s.length 32 0),(4, .ptr s.length 64 0),(5, .ptr s.length 80 0),(6,i64 0)] (sobF b s.length []::s)=
  some (.exit 0,[(1,i64 n),(2, .ptr s.length 32 0),(4, .ptr s.length 64 0),(5, .ptr s.length 80 0),(6,i64 b.trap.times),(14, .bool false)],sobF b s.length (soberL b n)::s):=by
 have htt:=(bookB_ok hB).trap.tt
 have eT:b.T=b.trap.times.toNat:=rfl
 have hz:((b.T:Nat):Int)=b.trap.times:=by omega
 have key:=loop_fold (T:=T) (live:=[1,2,4,5,6]) (keep:=[32,64,80,88]) (b:=d61l0) (List.range b.T) (fun k (a:List Int)=>a.length≤k) (pickSo b n)
  (fun k _=>[(1,i64 n),(2, .ptr s.length 32 0),(4, .ptr s.length 64 0),(5, .ptr s.length 80 0),(6,i64 (k:Nat))]) (fun _ a=>sobF b s.length a::s)
  (fun a=>(.exit 0,[(1,i64 n),(2, .ptr s.length 32 0),(4, .ptr s.length 64 0),(5, .ptr s.length 80 0),(6,i64 b.trap.times),(14, .bool false)],sobF b s.length a::s))
  (by simp) ?_ ?_ ?_ [] (by simp) [(1,i64 n),(2, .ptr s.length 32 0),(4, .ptr s.length 64 0),(5, .ptr s.length 80 0),(6,i64 0)] (sobF b s.length []::s) (by simp) (by simp[sobF])
 ·rw[pickSo_fold,List.nil_append]at key
  exact key
 ·intro k a hk hi
  simp only[List.length_range]at hk
  simp only[List.getElem_range]
  have hk2:(k:Int)<b.trap.times:=by omega
  have hk9:k<1000:=by omega
  have i1:=fun lab s=>e_In b.sober k (by have:=hc.sober;omega) lab s
  rw[in_contains]at i1
  have e0:es cInt a ++[[i64 (k:Nat)]]=es cInt (a ++[(k:Int)]):=by simp[es]
  unfold pickSo
  clear eT hz htt
  generalize b.sober.contains (k:Int)=c at*
  by_cases h:(k:Int)=n
  ·subst h
   simp (maxSteps:=6000000) (disch:=first|omega|assumption|decide +kernel|(simp;done)|(simp;omega)|fail) [run_drawnK,orSlow_none,sobF,hk2,e0,appK_own1,wk k (by omega)]
  ·cases c
   ·simp (maxSteps:=6000000) (disch:=first|omega|assumption|decide +kernel|(simp;done)|(simp;omega)|fail) [run_drawnK,orSlow_none,sobF,hk2,h,i1,-e_In,wk k (by omega)]
   ·simp (maxSteps:=6000000) (disch:=first|omega|assumption|decide +kernel|(simp;done)|(simp;omega)|fail) [run_drawnK,orSlow_none,sobF,hk2,h,i1,-e_In,e0,appK_own1,wk k (by omega)]
 ·intro k a hk hi
  unfold pickSo
  split<;>(try simp only[List.length_append,List.length_cons,List.length_nil])<;>omega
 ·intro a hi
  simp only[List.length_range,hz]
  simp[sobF]
set_option maxHeartbeats 4000000 in
theorem e_sobered(b:WBook)(hB:bookB b=true)(hc:CopyB b)(n:Int)(lab s):den T 61 [.agg (vB b),i64 n] lab s=some (.agg (vB (soberedB b n)),s):=by
 have h1:=fun lab s=>e_Copy11 b hc lab s
 have h2:=e_sobered_l b hB hc n s
 simp only[sobF,es_nil,List.length_nil]at h2
 unfold soberedB
 generalize soberL b n=S at*
 rw[den_fn t61 _ _ _ rfl]
 simp only[b61]
 simp (maxSteps:=6000000) (disch:=first|omega|assumption|decide +kernel|(simp;done)|(simp;omega)|fail) [h1,h2]
theorem sobered_ok {b:WBook}(hB:bookB b=true)(hc:CopyB b)(n:Int):bookB (soberedB b n)=true∧CopyB (soberedB b n):=by
 have hok:=bookB_ok hB
 have ht:=hok.t6
 have hall:=soberL_all b n
 obtain⟨h1,h2⟩:=allL_mem.1 hall
 have hl:=pair_lenL (lo:=0) h1 h2
 have eT:b.T=b.trap.times.toNat:=rfl
 have htt:=hok.trap.tt
 constructor
 ·simp only[bookB,Bool.and_eq_true]at hB⊢
  refine⟨hB.1,hB.2.1,hB.2.2.1,rising_iff.2 ⟨h1,fun y hy=> ?_⟩⟩
  have:=h2 y hy
  show 0≤y∧y≤b.trap.times-1
  omega
 ·exact⟨hc.trap,by show(soberL b n).length<_;omega⟩
end Go.Proofs.YthghcainodgnkaaGreat

/-
  Watch: WatchAnswer .
-/
namespace Go.Proofs.YthghcainodgnkaaGreat
open Go.Ab
set_option maxHeartbeats 32000000 in
theorem e_WatchAnswer(b:WBook)(hs:ShortB b)(n:Int)(lab s):den T 13 [.agg (vB b),i64 n] lab s=some (.bool true,s):=by
 have h1:=fun lab s=>e_ready b hs lab s
 cases c1:readyK b
 ·rw[den_fn t13 _ _ _ rfl]
  simp only[b13]
  simp (maxSteps:=6000000) (disch:=first|omega|assumption|decide +kernel|(simp;done)|(simp;omega)|fail) [h1,c1]
 obtain⟨hc,hB,_⟩:=readyK_ok c1
 have hok:=bookB_ok hB
 have hm:=trapB_mid (bookB_trap hB)
 have h2:=fun n lab s=>e_IsTime11 b hm n lab s
 cases c2:wiB n 0 (b.trap.times-1)
 ·rw[den_fn t13 _ _ _ rfl]
  simp only[b13]
  simp (maxSteps:=6000000) (disch:=first|omega|assumption|decide +kernel|(simp;done)|(simp;omega)|fail) [h1,c1,h2,c2]
 have hb:=wiB_iff.1 c2
 have htt:=hok.trap.tt
 have eT:b.T=b.trap.times.toNat:=rfl
 obtain⟨n,rfl⟩: ∃m:Nat,n=m:=⟨n.toNat,by omega⟩
 have hn:n<b.T:=by omega
 have hl32:=stories_32 hB
 have cnt:=fun(m:Nat) (h:m<b.T)=>(sobered_is hok (n:=m) (by omega)).count
 have h3:=fun lab s=>e_stories11 b hB hc lab s
 have h4:=fun(m:Int) lab s=>e_sobered b hB hc m lab s
 have h5:=fun(m:Int) lab s=>e_stories11 (soberedB b m) (sobered_ok hB hc m).1 (sobered_ok hB hc m).2 lab s
 have h6:=fun lab s=>e_AskW b hc lab s
 have h7:=fun e lab s=>e_isKnown e lab s
 have h8:=fun lab s=>e_DrunkW b hc hm n lab s
 have h9:=fun x y lab s=>e_Known01 x y lab s
 unfold askV11 at h6
 rw[open11_B hB,if_pos rfl]at h6
 rw[open11_B hB,if_pos c2]at h8
 have c0:=cnt n hn
 have wl:=withN_le b n
 by_cases hne:storiesL b=[]
 ·rw[hne]at h3 c0
  rw[if_pos hne,if_neg (by decide)]at h6
  have e0:(storiesL (soberedB b n)).length=0:=by rw[List.length_nil]at c0;omega
  have h5:=fun lab s=>h5 n lab s
  have h4:=fun lab s=>h4 n lab s
  rw[e0]at h5
  clear cnt c0 wl e0 h8 h9 eT hn
  simp only[List.length_nil,Int.natCast_zero]at h3 h5
  generalize soberedB b n=o at*
  rw[den_fn t13 _ _ _ rfl]
  simp only[b13]
  simp (maxSteps:=6000000) (disch:=first|omega|assumption|decide +kernel|(simp;done)|(simp;omega)|fail) [run_drawnK,orSlow_none,h1,c1,h2,c2,h3,h4,h5,h6,h7]
 rw[if_neg hne,if_pos rfl]at h6 h8
 have hlp:=List.length_pos_iff.2 hne
 obtain⟨k,hk,ek,hk3⟩:=ask_spec (b:=b) hok.pos
 have ck:=cnt k hk
 have wlk:=withN_le b k
 obtain⟨q1,q2⟩:=hk3 n hn
 rw[ek]at h6
 unfold worseN at q1 q2
 have h5n:=fun lab s=>h5 n lab s
 have h5k:=fun lab s=>h5 k lab s
 have hkc:wiB (k:Int) 0 (b.trap.times-1)=true:=wiB_iff.2 (by omega)
 have h2n:=fun lab s=>h2 n lab s
 have h2k:=fun lab s=>h2 k lab s
 rw[c2]at h2n
 rw[hkc]at h2k
 have h4n:=fun lab s=>h4 n lab s
 have h4k:=fun lab s=>h4 k lab s
 clear cnt h2 h4 h5 hk3 ek hs hok hm htt eT hb hkc c2 hk hn
 generalize hA:(storiesL b).length=A at*
 generalize hN:(storiesL (soberedB b n)).length=N at*
 generalize hK:(storiesL (soberedB b k)).length=K at*
 have w1:IntKind.i64.wrap ((A:Int)-N)=(withN b n:Nat):=by rw[wi _ (by omega) (by omega)];omega
 have w2:IntKind.i64.wrap ((A:Int)-K)=(withN b k:Nat):=by rw[wi _ (by omega) (by omega)];omega
 have n0: ¬(A:Int)=0:=by omega
 have n1: ¬(A:Int)<0:=by omega
 have n2: ¬(N:Int)<0:=by omega
 have n3: ¬(K:Int)<0:=by omega
 have n4: ¬(A:Int)<N:=by omega
 have n5: ¬(A:Int)<K:=by omega
 have m1:max (K:Int) (withN b k:Nat)≤max (N:Int) (withN b n:Nat):=by omega
 have m2: ¬max (K:Int) (withN b k:Nat)<max (N:Int) (withN b n:Nat)→(k:Int)≤n:=by omega
 have h9n:=fun lab s=>h9 (withN b n:Nat) (A:Nat) lab s
 generalize withN b n=Wn at*
 generalize withN b k=Wk at*
 generalize soberedB b n=on at*
 generalize soberedB b k=ok at*
 rw[show knownN01 (Wn:Int) (A:Nat)=knownN (Wn:Int) (A:Nat)from rfl]at h9n
 generalize knownN (Wn:Int) (A:Nat)=kn at*
 clear h9 hA hN hK c0 ck wl wlk q1 q2 hl32 hlp
 by_cases c3:A=1
 ·rw[if_pos c3]at h6
  have c4: ¬(1:Int)<A:=by omega
  rw[den_fn t13 _ _ _ rfl]
  simp only[b13]
  simp (maxSteps:=6000000) (disch:=first|omega|assumption|decide +kernel|(simp;done)|(simp;omega)|fail) [run_drawnK,orSlow_none,h1,c1,h2n,h3,h4n,h5n,h6,h7,h8,h9n,w1,n0,n1,n2,n4,c4]
 ·rw[if_neg c3]at h6
  have c4:(1:Int)<A:=by omega
  rw[den_fn t13 _ _ _ rfl]
  simp only[b13]
  by_cases c5:max (K:Int) (Wk:Nat)<max (N:Int) (Wn:Nat)
  ·simp (maxSteps:=6000000) (disch:=first|omega|assumption|decide +kernel|(simp;done)|(simp;omega)|fail) [run_drawnK,orSlow_none,h1,c1,h2n,h2k,h3,h4n,h4k,h5n,h5k,h6,h7,h8,h9n,w1,w2,n0,n1,n2,n3,n4,n5,c4,c5,m1]
  ·have c6:=m2 c5
   simp (maxSteps:=6000000) (disch:=first|omega|assumption|decide +kernel|(simp;done)|(simp;omega)|fail) [run_drawnK,orSlow_none,h1,c1,h2n,h2k,h3,h4n,h4k,h5n,h5k,h6,h7,h8,h9n,w1,w2,n0,n1,n2,n3,n4,n5,c4,c5,c6,m1]
end Go.Proofs.YthghcainodgnkaaGreat

/-
  Watch, laws: Huge, Far, ready (not built yet).
-/
import Derived.Test.YthghcainodgnkaaGreatEq3
import Derived.Test.YthghcainodgnkaaGreatEq1
set_option linter.unusedSimpArgs false
set_option linter.unusedVariables false
namespace Go.Proofs.YthghcainodgnkaaGreat
open Go.Ab
structure ShortB(b:WBook):Prop where
 trap:ShortT b.trap
 sober:b.sober.length<4611686018427387904
def hugeL(l:List (List Int)):Bool:=decide (40<l.length)|| !allB (fun r=>decide (r.length≤40)) l
def hugeT(t:CTrap):Bool:=hugeL t.opn||decide (40<t.words.length)
def hugeK(b:WBook):Bool:=hugeT b.trap||decide (40<b.sober.length)
theorem e_huge_l(l:List (List Int))(hl:l.length≤40)(s:Stk)(he: ∀r,r∈l→r.length<4611686018427387904):
 Run T b132l0 [(0, .sl .no 1 (es cInts l)),(3,i64 0)] ([]::s)=
  if allB (fun r=>decide (r.length≤40)) l=true then some (.exit 0,[(0, .sl .no 1 (es cInts l)),(3,i64 l.length),(10, .bool false)],[]::s)else some (.ret,[(2, .bool true)],[]::s):=by
 refine loop_all l (fun r=>decide (r.length≤40)) (fun k=>[(0, .sl .no 1 (es cInts l)),(3,i64 k)]) (fun _=>[]::s) _ _ (by simp) (by simp) ?_ (by simp) _ _ (by simp) (by simp)
 intro k hk
 have hk2:(k:Int)<l.length:=by omega
 generalize hR:l[k]=R at*
 by_cases h:R.length≤40
 ·have h2: ¬(40:Int)<R.length:=by omega
  simp (maxSteps:=1000000) (disch:=first|omega|assumption|decide +kernel|(simp;done)|(simp;omega)|fail) [hk,hk2,hR,h,h2,wk k (by omega)]
 ·have h2:(40:Int)<R.length:=by omega
  simp (maxSteps:=1000000) (disch:=first|omega|assumption|decide +kernel|(simp;done)|(simp;omega)|fail) [hk,hk2,hR,h,h2,wk k (by omega)]
theorem e_huge(l:List (List Int))(hl:l.length<4611686018427387904)(he: ∀r,r∈l→r.length<4611686018427387904)(lab s):den T 132 [.sl .no 1 (es cInts l)] lab s=some (.bool (hugeL l),s):=by
 unfold hugeL
 rw[den_fn t132 _ _ _ rfl]
 simp only[b132]
 by_cases h:40<l.length
 ·have h2:(40:Int)<l.length:=by omega
  simp (maxSteps:=1000000) (disch:=first|omega|assumption|decide +kernel|(simp;done)|(simp;omega)|fail) [h,h2]
 ·have h2: ¬(40:Int)<l.length:=by omega
  have h1:=e_huge_l l (by omega) s he
  cases ha:allB (fun r=>decide (r.length≤40)) l
  ·rw[ha,if_neg (by simp)]at h1
   simp (maxSteps:=1000000) (disch:=first|omega|assumption|decide +kernel|(simp;done)|(simp;omega)|fail) [h,h2,h1]
  ·rw[ha,if_pos rfl]at h1
   simp (maxSteps:=1000000) (disch:=first|omega|assumption|decide +kernel|(simp;done)|(simp;omega)|fail) [h,h2,h1]
theorem e_Huge01(t:CTrap)(hs:ShortT t)(lab s):den T 88 [.agg (vT t)] lab s=some (.bool (hugeT t),s):=by
 have h1:=fun lab s=>e_huge t.opn hs.opn hs.each lab s
 have hw:=hs.words
 unfold hugeT
 rw[den_fn t88 _ _ _ rfl]
 simp only[b88]
 cases c:hugeL t.opn
 ·by_cases h:40<t.words.length
  ·have h2:(40:Int)<t.words.length:=by omega
   simp (maxSteps:=1000000) (disch:=first|omega|assumption|decide +kernel|(simp;done)|(simp;omega)|fail) [h1,c,h,h2]
  ·have h2: ¬(40:Int)<t.words.length:=by omega
   simp (maxSteps:=1000000) (disch:=first|omega|assumption|decide +kernel|(simp;done)|(simp;omega)|fail) [h1,c,h,h2]
 ·simp (maxSteps:=1000000) (disch:=first|omega|assumption|decide +kernel|(simp;done)|(simp;omega)|fail) [h1,c]
theorem e_Huge11(b:WBook)(hs:ShortB b)(lab s):den T 36 [.agg (vB b)] lab s=some (.bool (hugeK b),s):=by
 have h1:=fun lab s=>e_Huge01 b.trap hs.trap lab s
 have hw:=hs.sober
 unfold hugeK
 rw[den_fn t36 _ _ _ rfl]
 simp only[b36]
 cases c:hugeT b.trap
 ·by_cases h:40<b.sober.length
  ·have h2:(40:Int)<b.sober.length:=by omega
   simp (maxSteps:=1000000) (disch:=first|omega|assumption|decide +kernel|(simp;done)|(simp;omega)|fail) [h1,c,h,h2]
  ·have h2: ¬(40:Int)<b.sober.length:=by omega
   simp (maxSteps:=1000000) (disch:=first|omega|assumption|decide +kernel|(simp;done)|(simp;omega)|fail) [h1,c,h,h2]
 ·simp (maxSteps:=1000000) (disch:=first|omega|assumption|decide +kernel|(simp;done)|(simp;omega)|fail) [h1,c]
theorem hugeK_copy {b:WBook}(h:hugeK b=false):CopyB b:=by
 simp only[hugeK,hugeT,hugeL,Bool.or_eq_false_iff,decide_eq_false_iff_not,Bool.not_eq_false',allB_iff,decide_eq_true_eq]at h
 obtain⟨⟨⟨h1,h2⟩,h3⟩,h4⟩:=h
 exact⟨⟨by omega,by omega,fun l hl=>by have:=h2 l hl;omega⟩,by omega⟩
def farB(b:WBook):Bool:=hugeK b||((decide (3<b.trap.chambers)||decide (4<b.trap.times))&&bookB b)
def readyK(b:WBook):Bool:= !farB b&&bookB b
theorem e_Far(b:WBook)(hs:ShortB b)(lab s):den T 27 [.agg (vB b)] lab s=some (.bool (farB b),s):=by
 have h1:=fun lab s=>e_Huge11 b hs lab s
 unfold farB
 cases c:hugeK b
 ·have h2:=fun lab s=>e_Check11 b (hugeK_copy c) lab s
  rw[den_fn t27 _ _ _ rfl]
  simp only[b27]
  by_cases q1:3<b.trap.chambers
  ·cases q:bookB b<;>simp (maxSteps:=1000000) (disch:=first|omega|assumption|decide +kernel|(simp;done)|(simp;omega)|fail) [h1,h2,c,q1,q]
  ·by_cases q2:4<b.trap.times
   ·cases q:bookB b<;>simp (maxSteps:=1000000) (disch:=first|omega|assumption|decide +kernel|(simp;done)|(simp;omega)|fail) [h1,h2,c,q1,q2,q]
   ·simp (maxSteps:=1000000) (disch:=first|omega|assumption|decide +kernel|(simp;done)|(simp;omega)|fail) [h1,h2,c,q1,q2]
 ·rw[den_fn t27 _ _ _ rfl]
  simp only[b27]
  simp (maxSteps:=1000000) (disch:=first|omega|assumption|decide +kernel|(simp;done)|(simp;omega)|fail) [h1,c]
theorem farB_copy {b:WBook}(h:farB b=false):CopyB b:=by
 unfold farB at h
 exact hugeK_copy (by rw[Bool.or_eq_false_iff]at h;exact h.1)
theorem readyK_ok {b:WBook}(h:readyK b=true):CopyB b∧bookB b=true∧b.trap.chambers≤3∧b.trap.times≤4:=by
 simp only[readyK,Bool.and_eq_true,Bool.not_eq_true']at h
 obtain⟨h1,h2⟩:=h
 refine⟨farB_copy h1,h2,?_⟩
 simp only[farB,Bool.or_eq_false_iff,h2,Bool.and_true,decide_eq_false_iff_not]at h1
 omega
theorem e_ready(b:WBook)(hs:ShortB b)(lab s):den T 16 [.agg (vB b)] lab s=some (.bool (readyK b),s):=by
 have h1:=fun lab s=>e_Far b hs lab s
 unfold readyK
 cases c:farB b
 ·have h2:=fun lab s=>e_Check11 b (farB_copy c) lab s
  rw[den_fn t16 _ _ _ rfl]
  simp only[b16]
  cases q:bookB b<;>simp (maxSteps:=1000000) (disch:=first|omega|assumption|decide +kernel|(simp;done)|(simp;omega)|fail) [h1,h2,c,q]
 ·rw[den_fn t16 _ _ _ rfl]
  simp only[b16]
  simp (maxSteps:=1000000) (disch:=first|omega|assumption|decide +kernel|(simp;done)|(simp;omega)|fail) [h1,c]
end Go.Proofs.YthghcainodgnkaaGreat

/-
  What the arguments of the laws of watch read as.
-/
namespace Go.Proofs.YthghcainodgnkaaGreat
open Go.Ab
set_option maxRecDepth 100000
theorem cells57:Tryz.prog.cellsOf 57=4:=by kernel_rfl
theorem cells3:Tryz.prog.cellsOf 3=1:=by kernel_rfl
theorem cells26:Tryz.prog.cellsOf 26=1:=by kernel_rfl
variable {B : TypeId → Nat → Prop} {n : Nat} {vs : List V}
theorem fit_int(h:Fit Tryz.prog B (n+1) 3 vs): ∃x,vs=[i64 x]:=by
 simp only[Fit,Tryz.underlying3]at h
 exact h
theorem es_all {α:Type} {f:α→List V}(l:List (List V))(h: ∀x∈l,∃y,x=f y): ∃l':List α,l=es f l':=by
 obtain⟨l',h1,_⟩:=es_of (Q:=fun _=>True) l fun x hx=>by obtain⟨y,hy⟩:=h x hx;exact⟨y,hy,trivial⟩
 exact⟨l',h1⟩
theorem fit_ints(h:Fit Tryz.prog B (n+2) 26 vs): ∃l:List Int,vs=[.sl .no 1 (es cInt l)]∧B 3 l.length:=by
 rw[Fit,Tryz.underlying26]at h
 simp only at h
 obtain⟨l,rfl,hb,h⟩:=h
 obtain⟨l',rfl⟩:=es_all (f:=cInt) l fun x hx=>by obtain⟨y,hy⟩:=fit_int (h x hx);exact⟨y,hy⟩
 rw[cells3]
 exact⟨l',rfl,by simpa using hb⟩
theorem fit_lists(h:Fit Tryz.prog B (n+3) 22 vs): ∃l:List (List Int),vs=[.sl .no 1 (es cInts l)]∧B 26 l.length∧ ∀x,x∈l→B 3 x.length:=by
 rw[Fit,Tryz.underlying22]at h
 simp only at h
 obtain⟨l,rfl,hb,h⟩:=h
 obtain⟨l',h1,h2⟩:=es_of (f:=cInts) (Q:=fun x=>B 3 x.length) l fun x hx=>by obtain⟨y,hy,hy2⟩:=fit_ints (h x hx);exact⟨y,hy,hy2⟩
 subst h1
 rw[cells26]
 exact⟨l',rfl,by simpa using hb,h2⟩
theorem fit_cword(h:Fit Tryz.prog B (n+2) 57 vs): ∃x:CWord,vs=cWord x:=by
 rw[Fit,Tryz.underlying57]at h
 simp only[FitF]at h
 obtain⟨_,_,rfl,h0,_,_,rfl,h1,_,_,rfl,h2,_,_,rfl,h3,rfl⟩:=h
 obtain⟨a,rfl⟩:=fit_int h0
 obtain⟨b,rfl⟩:=fit_int h1
 obtain⟨c,rfl⟩:=fit_int h2
 obtain⟨d,rfl⟩:=fit_int h3
 exact⟨⟨a,b,c,d⟩,rfl⟩
theorem fit_words(h:Fit Tryz.prog B (n+3) 23 vs): ∃l:List CWord,vs=[.sl .no 4 (es cWord l)]∧B 57 l.length:=by
 rw[Fit,Tryz.underlying23]at h
 simp only at h
 obtain⟨l,rfl,hb,h⟩:=h
 obtain⟨l',rfl⟩:=es_all (f:=cWord) l fun x hx=>fit_cword (h x hx)
 rw[cells57]
 exact⟨l',rfl,by simpa using hb⟩
def Reach(e:TypeId)(k:Nat):Prop:=k≤maxLen∧k*Tryz.prog.bytesOf e≤reachBytes
theorem bytes57:Tryz.prog.bytesOf 57=32:=by kernel_rfl
theorem bytes3:Tryz.prog.bytesOf 3=8:=by kernel_rfl
theorem bytes26:Tryz.prog.bytesOf 26=24:=by kernel_rfl
theorem reach_ints {k:Nat}(h:Reach 3 k):k<4611686018427387904:=by
 simp only[Reach,bytes3,reachBytes]at h;omega
theorem reach_lists {k:Nat}(h:Reach 26 k):k<4611686018427387904:=by
 simp only[Reach,bytes26,reachBytes]at h;omega
theorem reach_words {k:Nat}(h:Reach 57 k):k<4611686018427387904:=by
 simp only[Reach,bytes57,reachBytes]at h;omega
theorem fit_trap(h:Fit Tryz.prog Reach (n+4) 25 vs): ∃t:CTrap,vs=vT t∧ShortT t:=by
 rw[Fit,Tryz.underlying25]at h
 simp only[FitF]at h
 obtain⟨_,_,rfl,h0,_,_,rfl,h1,_,_,rfl,h2,_,_,rfl,h3,rfl⟩:=h
 obtain⟨a,rfl⟩:=fit_int h0
 obtain⟨b,rfl⟩:=fit_int h1
 obtain⟨c,rfl,q1,q2⟩:=fit_lists h2
 obtain⟨d,rfl,q3⟩:=fit_words h3
 exact⟨⟨a,b,c,d⟩,rfl,reach_lists q1,reach_words q3,fun l hl=>reach_ints (q2 l hl)⟩
theorem fit_book(h:Fit Tryz.prog Reach (n+5) 28 vs): ∃b:WBook,vs=vB b∧ShortB b:=by
 rw[Fit,Tryz.underlying28]at h
 simp only[FitF]at h
 obtain⟨_,_,rfl,h0,_,_,rfl,h1,_,_,rfl,h2,_,_,rfl,h3,rfl⟩:=h
 obtain⟨t,rfl,q1⟩:=fit_trap h0
 obtain⟨a,rfl⟩:=fit_int h1
 obtain⟨c,rfl⟩:=fit_int h2
 obtain⟨d,rfl,q3⟩:=fit_ints h3
 exact⟨⟨t,a,c,d⟩,rfl,q1,reach_ints q3⟩
theorem fit_tale(h:Fit Tryz.prog Reach (n+4) 51 vs): ∃(g:List Int) (m:List (List Int)),vs=[.sl .no 1 (es cInt g), .sl .no 1 (es cInts m)]∧g.length<4611686018427387904∧m.length<4611686018427387904∧ ∀x,x∈m→x.length<4611686018427387904:=by
 rw[Fit,Tryz.underlying51]at h
 simp only[FitF]at h
 obtain⟨_,_,rfl,h0,_,_,rfl,h1,rfl⟩:=h
 obtain⟨a,rfl,q0⟩:=fit_ints h0
 obtain⟨b,rfl,q1,q2⟩:=fit_lists h1
 exact⟨a,b,rfl,reach_ints q0,reach_lists q1,fun x hx=>reach_ints (q2 x hx)⟩
end Go.Proofs.YthghcainodgnkaaGreat

/-
  Watch, laws: the examples, works (not built yet).
-/
namespace Go.Proofs.YthghcainodgnkaaGreat
open Go.Ab
theorem e_word11(a b c d:Int)(lab s):den T 117 [i64 a,i64 b,i64 c,i64 d] lab s=some (.agg [i64 a,i64 b,i64 c,i64 d],s):=by
 rw[den_fn t117 _ _ _ rfl]
 simp only[b117]
 simp (maxSteps:=1000000) (disch:=first|omega|assumption|decide +kernel|(simp;done)|(simp;omega)|fail) []
theorem exB_copy:CopyB exB:=hugeK_copy (by decide)
theorem exC_copy:CopyB exC:=hugeK_copy (by decide)
theorem exB_ok:bookB exB=true:=by decide +kernel
theorem exC_ok:bookB exC=true:=by decide +kernel
theorem exB_mid:Mid exB.trap:=trapB_mid (bookB_trap exB_ok)
set_option maxHeartbeats 2000000 in
theorem e_Example11(lab s):den T 73 [] lab s=some (.tup [.agg (vB exB), .agg (vB exC)],s):=by
 have hC:=fun lab s=>e_Copy11 exB exB_copy lab s
 simp only[vB,exB,exC,es,List.map_cons,List.map_nil,cInts_eq,cInts,cInt,cWord]at hC⊢
 rw[den_fn t73 _ _ _ rfl]
 simp only[b73]
 simp (maxSteps:=6000000) (disch:=first|omega|assumption|decide +kernel|(simp;done)|(simp;omega)|fail) [run_drawnK,orSlow_none,e_word11,hC]
set_option maxHeartbeats 4000000 in
@[simp] theorem e_works11(lab s):den T 17 [] lab s=some (.bool true,s):=by
 have o1:open11 exB true=0:=by unfold open11 ask11;rw[exB_ok];simp[ex_someB]
 have h1:=fun lab s=>e_StoriesW exC exC_copy lab s
 have h2:=fun lab s=>e_LeastW exB exB_copy lab s
 have h3:=fun lab s=>e_MustW exB exB_copy lab s
 have h4:=fun lab s=>e_LiesW exB exB_copy 2 lab s
 have h5:=fun lab s=>e_FishW exB exB_copy exB_mid 1 0 lab s
 have h6:=fun lab s=>e_BlameW exB exB_copy lab s
 have h7:=fun lab s=>e_Example11 lab s
 have e4:liesV11 exB 2=(2,0):=by
  have:wiB 2 0 ((exB.trap.words.length:Int)-1)=true:=by decide
  unfold liesV11;rw[this,o1,if_pos rfl,ex_liesB]
 have e5:fishV11 exB 1 0=(⟨2,9⟩,0):=by
  have:placeB exB.trap 1 0=true:=by decide
  unfold fishV11;rw[this,o1,if_pos rfl]
  exact congrArg (fun x=>(x,(0:Int))) ex_spanB
 rw[exC_ok,if_pos rfl,if_pos rfl,ex_storiesC]at h1
 rw[o1,if_pos rfl,ex_storiesB]at h2
 rw[o1,if_pos rfl,ex_mustB]at h3
 rw[o1,if_pos rfl,ex_blameB]at h6
 rw[e4]at h4
 rw[e5]at h5
 have s1: ∀(F:Ab.Loc) lab,den T 34 [.sl .no 1 (es cInt [0,3]), .sl .no 1 [[i64 0],[i64 3]]] lab (F::s)=some (.bool true,F::s):=fun F lab=>(e_Same2 [0,3] [0,3] (by decide) (by decide) lab (F::s)).trans rfl
 have s2: ∀(F:Ab.Loc) lab,den T 34 [.sl .no 1 (es cInt [3]), .sl .no 1 [[i64 3]]] lab (F::s)=some (.bool true,F::s):=fun F lab=>(e_Same2 [3] [3] (by decide) (by decide) lab (F::s)).trans rfl
 generalize exB=B at*
 generalize exC=C at*
 generalize ([0,3]:List Int)=L03 at*
 generalize ([3]:List Int)=L3 at*
 rw[den_fn t17 _ _ _ rfl]
 simp only[b17]
 simp (maxSteps:=6000000) (disch:=first|omega|assumption|decide +kernel|(simp;done)|(simp;omega)|fail) [run_drawnK,orSlow_none,h1,h2,h3,h4,h5,h6,h7,s1,s2,-e_Same2,eqCells]
end Go.Proofs.YthghcainodgnkaaGreat

/-
  Watch, laws: small helpers (not built yet).
-/
namespace Go.Proofs.YthghcainodgnkaaGreat
open Go.Ab
theorem e_has11(x:CSp)(n:Int)(lab s):den T 49 [.agg [i64 x.lo,i64 x.hi],i64 n] lab s=some (.bool (decide (x.lo≤n)&&decide (n≤x.hi)),s):=by
 obtain⟨x1,x2⟩:=x
 rw[den_fn t49 _ _ _ rfl]
 simp only[b49]
 by_cases h1:x1≤n
 ·by_cases h2:n≤x2<;>simp (maxSteps:=1000000) (disch:=first|omega|assumption|decide +kernel|(simp;done)|(simp;omega)|fail) [h1,h2]
 ·simp (maxSteps:=1000000) (disch:=first|omega|assumption|decide +kernel|(simp;done)|(simp;omega)|fail) [h1]
def falseN(b:WBook):Int:=if storiesL b=[]then 100 else(blameL b).length
theorem blame_len {b:WBook}(hB:bookB b=true)(hne:storiesL b≠[]):(blameL b).length≤b.trap.words.length∧b.trap.words.length≤8:=by
 have hw8:b.trap.words.length≤8:=by
  have:=bookB_trap hB
  simp only[trapB,Bool.and_eq_true,decide_eq_true_eq]at this
  exact this.2.2.2.1
 obtain⟨h1,h2⟩:=allL_mem.1 (blame_spec (bookB_ok hB) hne).1
 have:=pair_lenL (lo:=0) h1 h2
 exact⟨by omega,hw8⟩
theorem open11_B {b:WBook}(h:bookB b=true) {is:Bool}:open11 b is=if is=true then(if storiesL b=[]then 3 else 0)else 1:=by
 unfold open11 ask11
 rw[h]
 cases is<;>simp
theorem e_lies11(b:WBook)(hB:bookB b=true)(hc:CopyB b)(lab s):den T 19 [.agg (vB b)] lab s=some (.tup [i64 (falseN b), .bool true],s):=by
 have h1:=fun lab s=>e_FalseW b hc lab s
 rw[open11_B hB,if_pos rfl]at h1
 unfold falseN
 by_cases h:storiesL b=[]
 ·rw[if_pos h]at h1⊢
  rw[den_fn t19 _ _ _ rfl]
  simp only[b19]
  simp (maxSteps:=1000000) (disch:=first|omega|assumption|decide +kernel|(simp;done)|(simp;omega)|fail) [run_drawnK,orSlow_none,h1]
 ·obtain⟨b1,b2⟩:=blame_len hB h
  rw[if_neg h]at h1⊢
  rw[if_pos rfl]at h1
  generalize (blameL b).length=n at*
  have n1:(n:Int)≤b.trap.words.length:=by omega
  rw[den_fn t19 _ _ _ rfl]
  simp only[b19]
  simp (maxSteps:=1000000) (disch:=first|omega|assumption|decide +kernel|(simp;done)|(simp;omega)|fail) [run_drawnK,orSlow_none,h1,n1]
end Go.Proofs.YthghcainodgnkaaGreat

/-
  Watch: WatchGood (not built yet).
-/
namespace Go.Proofs.YthghcainodgnkaaGreat
open Go.Ab
end Go.Proofs.YthghcainodgnkaaGreat

/-
  Watch, laws: books that are not valid, of any numbers (not built yet).
-/
namespace Go.Proofs.YthghcainodgnkaaGreat
open Go.Ab
section
variable (b : WBook) (hc : CopyB b) (hB : bookB b = false)
include hc hB
end
end Go.Proofs.YthghcainodgnkaaGreat

/-
  Watch: WatchDrunk, WatchLies, WatchFish (not built yet).
-/
namespace Go.Proofs.YthghcainodgnkaaGreat
open Go.Ab
end Go.Proofs.YthghcainodgnkaaGreat

/-
  Watch: WatchSober (not built yet).
-/
namespace Go.Proofs.YthghcainodgnkaaGreat
open Go.Ab
end Go.Proofs.YthghcainodgnkaaGreat

/-
  Watch: WatchBlame.
-/
namespace Go.Proofs.YthghcainodgnkaaGreat
open Go.Ab
end Go.Proofs.YthghcainodgnkaaGreat

/-
  Watch: WatchWithout.
-/
namespace Go.Proofs.YthghcainodgnkaaGreat
open Go.Ab
end Go.Proofs.YthghcainodgnkaaGreat

/-
  Watch: no span is wider.
-/
namespace Go.Proofs.YthghcainodgnkaaGreat
open Go.Ab
theorem fish_in {b:WBook}(hB:bookB b=true)(hne:storiesL b≠[]) {i c:Nat}(hi:i<b.T)(hc:c<b.trap.C):fishV11 b i c=(spanW b i c i (c+1),0):=by
 have e1:b.T=b.trap.times.toNat:=rfl
 have e2:b.trap.C=b.trap.chambers.toNat:=rfl
 have hp:placeB b.trap i c=true:=by
  unfold placeB
  rw[wiB_iff.2 (by omega),wiB_iff.2 (by omega)];rfl
 unfold fishV11
 rw[open11_B hB,hp,if_pos rfl,if_neg hne,if_pos rfl]
 simp only[Int.toNat_natCast]
end Go.Proofs.YthghcainodgnkaaGreat

/-
  Watch: WatchMore.
-/
namespace Go.Proofs.YthghcainodgnkaaGreat
open Go.Ab
end Go.Proofs.YthghcainodgnkaaGreat

/-
  Watch: the reference's Sum, Behind, IsTruth.
-/
namespace Go.Proofs.YthghcainodgnkaaGreat
open Go.Ab
theorem sum_bound: ∀(l:List Int),(∀n,n∈l→0≤n∧n≤40)→0≤l.sum∧l.sum≤40*(l.length:Int)
 |[],_=>by simp
 |x::l,h=>by
   have h1:=h x (List.mem_cons_self ..)
   have h2:=sum_bound l fun n hn=>h n (List.mem_cons_of_mem _ hn)
   rw[List.sum_cons,List.length_cons]
   push_cast
   omega
theorem foldl_sum: ∀(l:List Int) (a:Int),l.foldl (fun x y=>x+y) a=a+l.sum
 |[],a=>by simp
 |x::l,a=>by rw[List.foldl_cons,foldl_sum l,List.sum_cons];omega
theorem e_Sum_l(l:List Int)(hl:l.length<1000000)(hb: ∀n,n∈l→0≤n∧n≤40)(s:Stk):
 Run T b158l0 [(0, .sl .no 1 (es cInt l)),(3,i64 0),(4,i64 0)] ([]::s)=some (.exit 0,[(0, .sl .no 1 (es cInt l)),(3,i64 ((l).foldl (fun x y=>x+y) 0)),(4,i64 ((l).length:Nat)),(8, .bool false)],[]::s):=by
 have key:=loop_fold (T:=T) (live:=[0,3,4]) (keep:=[]) (b:=d158l0) (l) (fun k a=>0≤a∧a≤40*(k:Int)) (fun x y=>x+y) (fun k (a:Int)=>[(0, .sl .no 1 (es cInt l)),(3,i64 a),(4,i64 (k:Nat))]) (fun k (a:Int)=>[]::s) (fun(a:Int)=>(.exit 0,[(0, .sl .no 1 (es cInt l)),(3,i64 a),(4,i64 ((l).length:Nat)),(8, .bool false)],[]::s)) (by simp) ?_ ?_ ?_ 0 (by simp) [(0, .sl .no 1 (es cInt l)),(3,i64 0),(4,i64 0)] ([]::s) (by simp) (by simp)
 ·exact key
 ·intro k a hk hi
  have hk2:(k:Int)<l.length:=by omega
  have h1:=hb _ (List.getElem_mem hk)
  generalize hx:l[k]=x at*
  have w1:IntKind.i64.wrap (a+x)=a+x:=wi _ (by omega) (by omega)
  simp (maxSteps:=1000000) (disch:=first|omega|assumption|decide +kernel|(simp;done)|(simp;omega)|fail) [hk,hk2,hx,w1,wk k (by omega)]
 ·intro k a hk hi
  have h1:=hb _ (List.getElem_mem hk)
  push_cast
  omega
 ·intro a hi
  simp
theorem e_Sum(l:List Int)(hl:l.length<1000000)(hb: ∀n,n∈l→0≤n∧n≤40)(lab s):den T 158 [.sl .no 1 (es cInt l)] lab s=some (i64 l.sum,s):=by
 have h:=e_Sum_l l hl hb s
 rw[foldl_sum,Int.zero_add]at h
 rw[den_fn t158 _ _ _ rfl]
 simp only[b158]
 simp (maxSteps:=1000000) (disch:=first|omega|assumption|decide +kernel|(simp;done)|(simp;omega)|fail) [h]
theorem e_Behind(r:List Int)(hl:r.length<1000000)(hb: ∀n,n∈r→0≤n∧n≤40)(c:Nat)(hc:c≤r.length)(lab s):den T 142 [.sl .no 1 (es cInt r),i64 c] lab s=some (i64 (behindL r c),s):=by
 have h:=fun lab s=>e_Sum (r.drop c) (by rw[List.length_drop];omega) (fun n hn=>hb n (List.mem_of_mem_drop hn)) lab s
 have hc2:(c:Int)≤r.length:=by omega
 have hm:min r.length r.length=r.length:=Nat.min_self _
 have ht:(es cInt r).take r.length=es cInt r:=List.take_of_length_le (by simp)
 unfold behindL
 rw[den_fn t142 _ _ _ rfl]
 simp only[b142]
 simp (maxSteps:=1000000) (disch:=first|omega|assumption|decide +kernel|(simp;done)|(simp;omega)|fail) [h,hc,hc2,ht]
def stepQ(t:CTrap)(L:List (List Int))(i c:Nat):Bool:=decide (0≤rowsX L i c-rowsX L (i-1) c)&&(doorB t (i-1) c||decide (rowsX L i c-rowsX L (i-1) c≤0))
def rowQ(t:CTrap)(L:List (List Int))(i:Nat):Bool:=decide (((L.getD i []).length:Int)=t.chambers)&&(allB (fun n=>wiB n 0 40) (L.getD i [])&&(decide (rowsX L i 0≤40)&&(i==0||allB (stepQ t L i) (List.range t.C))))
def wordQ(L:List (List Int))(w:CWord):Bool:=wiB ((L.getD w.time.toNat []).getD w.chamber.toNat 0) w.lo w.hi
theorem truthT_rows(t:CTrap)(L:List (List Int)):truthT t L=(decide ((L.length:Int)=t.times)&&(allB (rowQ t L) (List.range t.T)&&allB (wordQ L) t.words)):=by
 unfold truthT rowQ wordQ allB stepQ
 rw[Bool.and_assoc]
 congr 2
 congr 1
 funext i
 congr 3
 cases h:(i==0)
 ·simp
 ·simp
theorem rowQ_ok {t:CTrap} {L:List (List Int)} {i:Nat}(h:rowQ t L i=true):((L.getD i []).length:Int)=t.chambers∧ ∀n,n∈L.getD i []→0≤n∧n≤40:=by
 simp only[rowQ,Bool.and_eq_true,decide_eq_true_eq,allB_iff,wiB_iff]at h
 exact⟨h.1,h.2.1⟩
end Go.Proofs.YthghcainodgnkaaGreat

/-
  Watch: the reference's IsTruth: a row.
-/
namespace Go.Proofs.YthghcainodgnkaaGreat
open Go.Ab
theorem e_truth_l1(t:CTrap)(L:List (List Int))(i:Nat)(hi:i<L.length)(hr:L[i].length<1000000)(s:Stk):
 Run T b98l1 [(1, .sl .no 1 (es cInts L)),(2, .ptr s.length 32 0),(5,i64 (i:Nat)),(6,i64 0)] ([(32, .cell (vT t))]::s)=
  if allB (fun n=>wiB n 0 40) L[i]=true then some (.exit 2,[(1, .sl .no 1 (es cInts L)),(2, .ptr s.length 32 0),(5,i64 (i:Nat)),(6,i64 L[i].length),(36, .bool false)],[(32, .cell (vT t))]::s)else some (.ret,[(4, .bool false)],[(32, .cell (vT t))]::s):=by
 have hi2:(i:Int)<L.length:=by omega
 generalize hR:L[i]=R at*
 refine loop_all R (fun n=>wiB n 0 40) (fun k=>[(1, .sl .no 1 (es cInts L)),(2, .ptr s.length 32 0),(5,i64 (i:Nat)),(6,i64 k)]) (fun _=>[(32, .cell (vT t))]::s) _ _ (by simp) (by simp) ?_ ?_ _ _ (by simp) (by simp)
 ·intro k hk
  have hk2:(k:Int)<R.length:=by omega
  generalize hx:R[k]=x at*
  cases h:wiB x 0 40
  ·simp (maxSteps:=1000000) (disch:=first|omega|assumption|decide +kernel|(simp;done)|(simp;omega)|fail) [hi,hi2,hR,hk,hk2,hx,h,wk k (by omega)]
  ·simp (maxSteps:=1000000) (disch:=first|omega|assumption|decide +kernel|(simp;done)|(simp;omega)|fail) [hi,hi2,hR,hk,hk2,hx,h,wk k (by omega)]
 ·simp (maxSteps:=1000000) (disch:=first|omega|assumption|decide +kernel|(simp;done)|(simp;omega)|fail) [hi,hi2,hR]
end Go.Proofs.YthghcainodgnkaaGreat

/-
  Watch: the reference's IsTruth: a row and the one before.
-/
namespace Go.Proofs.YthghcainodgnkaaGreat
open Go.Ab
set_option maxHeartbeats 4000000 in
theorem e_truth_l2(t:CTrap)(ht:TrapOk t)(ho: ∀x,x∈t.opn→x.length<4611686018427387904)(L:List (List Int))(i:Nat)(hi:i<L.length)(hT:(L.length:Int)=t.times)(h0:0<i)(ha:(L[i].length:Int)=t.chambers∧ ∀n,n∈L[i]→0≤n∧n≤40)(hb:(L[i-1].length:Int)=t.chambers∧ ∀n,n∈L[i-1]→0≤n∧n≤40)(s:Stk):
 Run T b98l2 [(1, .sl .no 1 (es cInts L)),(2, .ptr s.length 32 0),(5,i64 (i:Nat)),(7,i64 0)] ([(32, .cell (vT t))]::s)=
  if allB (stepQ t L i) (List.range t.C)=true then some (.exit 4,[(1, .sl .no 1 (es cInts L)),(2, .ptr s.length 32 0),(5,i64 (i:Nat)),(7,i64 t.chambers),(61, .bool false)],[(32, .cell (vT t))]::s)else some (.ret,[(4, .bool false)],[(32, .cell (vT t))]::s):=by
 have hcc:=ht.cc
 have hopn:=ht.opn
 have htt:=ht.tt
 have eC:t.C=t.chambers.toNat:=rfl
 have hz:((t.C:Nat):Int)=t.chambers:=by omega
 obtain⟨j,rfl⟩: ∃j,i=j+1:=⟨i-1,by omega⟩
 simp only[Nat.add_sub_cancel]at hb
 have hi2:(j:Int)+1<L.length:=by omega
 have hi4:j<L.length:=by omega
 have hi5:(j:Int)<L.length:=by omega
 have hi6:((j:Int)+1).toNat=j+1:=by omega
 have hi7:(0:Int)≤(j:Int)+1:=by omega
 have hi3:(0:Int)<(j:Int)+1:=by omega
 have hi8:j<t.opn.length:=by omega
 have hi9:(j:Int)<t.opn.length:=by omega
 have w0:IntKind.i64.wrap (j:Int)=(j:Int):=wi _ (by omega) (by omega)
 refine(loop_all (List.range t.C) (stepQ t L (j+1)) (fun k=>[(1, .sl .no 1 (es cInts L)),(2, .ptr s.length 32 0),(5,i64 ((j:Int)+1)),(7,i64 k)]) (fun _=>[(32, .cell (vT t))]::s) (.ret,[(4, .bool false)],[(32, .cell (vT t))]::s) (.exit 4,[(1, .sl .no 1 (es cInts L)),(2, .ptr s.length 32 0),(5,i64 ((j:Int)+1)),(7,i64 ((List.range t.C).length:Nat)),(61, .bool false)],[(32, .cell (vT t))]::s) (by simp) (by simp) ?_ ?_ _ _ (by simp) (by simp)).trans (by simp only[List.length_range,hz];rfl)
 ·intro k hk
  simp only[List.length_range]at hk
  simp only[List.getElem_range]
  have hk2:(k:Int)<t.chambers:=by omega
  have hk9:k<1000:=by omega
  have h1:=fun lab s=>e_Behind L[j+1] (by omega) ha.2 k (by omega) lab s
  have h2:=fun lab s=>e_Behind L[j] (by omega) hb.2 k (by omega) lab s
  have r1:rowsX L (j+1) k=behindL L[j+1] k:=by unfold rowsX;simp[List.getD,hi]
  have r2:rowsX L j k=behindL L[j] k:=by unfold rowsX;simp[List.getD,hi4]
  have b1:=sum_bound (L[j+1].drop k) fun n hn=>ha.2 n (List.mem_of_mem_drop hn)
  have b2:=sum_bound (L[j].drop k) fun n hn=>hb.2 n (List.mem_of_mem_drop hn)
  rw[List.length_drop]at b1 b2
  have dd:doorB t j k=(t.opn[j]).contains (k:Int):=by
   unfold doorB
   have:t.opn.getD j []=t.opn[j]:=by simp[List.getD,hi8]
   rw[this,←in_contains];rfl
  have i1:=fun lab s=>e_In t.opn[j] k (ho _ (List.getElem_mem hi8)) lab s
  rw[in_contains]at i1
  unfold stepQ
  simp only[Nat.add_sub_cancel]
  rw[r1,r2,dd]
  have w1:IntKind.i64.wrap (behindL L[j+1] k-behindL L[j] k)=behindL L[j+1] k-behindL L[j] k:=by unfold behindL;exact wi _ (by omega) (by omega)
  clear b1 b2 r1 r2 dd ha hb eC hz hcc hopn htt
  generalize behindL L[j+1] k=x at*
  generalize behindL L[j] k=y at*
  generalize hA:L[j+1]=A at*
  generalize hB:L[j]=B at*
  generalize hD:t.opn[j]=D at*
  generalize D.contains (k:Int)=c at*
  by_cases q1:x<y
  ·have q1': ¬y≤x:=by omega
   have e:(decide (0≤x-y)&&(c||decide (x-y≤0)))=false:=by rw[decide_eq_false (by omega)];rfl
   rw[e]
   have q3:x-y<0:=by omega
   simp (maxSteps:=6000000) (disch:=first|omega|assumption|decide +kernel|(simp;done)|(simp;omega)|fail) [run_drawnK,orSlow_none,hk2,hi,hi2,hi3,hi4,hi5,hi6,hi7,hi8,hi9,w0,w1,h1,h2,i1,-e_In,hA,hB,hD,q1,q1',q3,wk k (by omega)]
  ·have q1':y≤x:=by omega
   have q3: ¬x-y<0:=by omega
   by_cases q2:y<x
   ·have q2':0<x-y:=by omega
    have e:(decide (0≤x-y)&&(c||decide (x-y≤0)))=c:=by rw[decide_eq_true (by omega),decide_eq_false (by omega)];simp
    rw[e]
    cases c
    ·simp (maxSteps:=6000000) (disch:=first|omega|assumption|decide +kernel|(simp;done)|(simp;omega)|fail) [run_drawnK,orSlow_none,hk2,hi,hi2,hi3,hi4,hi5,hi6,hi7,hi8,hi9,w0,w1,h1,h2,i1,-e_In,hA,hB,hD,q1,q1',q2,q2',q3,wk k (by omega)]
    ·simp (maxSteps:=6000000) (disch:=first|omega|assumption|decide +kernel|(simp;done)|(simp;omega)|fail) [run_drawnK,orSlow_none,hk2,hi,hi2,hi3,hi4,hi5,hi6,hi7,hi8,hi9,w0,w1,h1,h2,i1,-e_In,hA,hB,hD,q1,q1',q2,q2',q3,wk k (by omega)]
   ·have q2': ¬0<x-y:=by omega
    have e:(decide (0≤x-y)&&(c||decide (x-y≤0)))=true:=by rw[decide_eq_true (by omega),decide_eq_true (by omega)];simp
    rw[e]
    simp (maxSteps:=6000000) (disch:=first|omega|assumption|decide +kernel|(simp;done)|(simp;omega)|fail) [run_drawnK,orSlow_none,hk2,hi,hi2,hi3,hi4,hi5,hi6,hi7,hi8,hi9,w0,w1,h1,h2,i1,-e_In,hA,hB,hD,q1,q1',q2,q2',q3,wk k (by omega)]
 ·have hz2: ¬((t.C:Nat):Int)<t.chambers:=by omega
  simp only[List.length_range]
  generalize t.C=n at*
  simp (maxSteps:=1000000) (disch:=first|omega|assumption|decide +kernel|(simp;done)|(simp;omega)|fail) [hz2]
end Go.Proofs.YthghcainodgnkaaGreat

/-
  Watch: the reference's IsTruth, whole.
-/
namespace Go.Proofs.YthghcainodgnkaaGreat
open Go.Ab
set_option maxHeartbeats 8000000 in
theorem e_truth_l0(t:CTrap)(ht:TrapOk t)(ho: ∀x,x∈t.opn→x.length<4611686018427387904)(L:List (List Int))(hT:(L.length:Int)=t.times)(hr: ∀r,r∈L→r.length<1000000)(s:Stk):
 Run T b98l0 [(1, .sl .no 1 (es cInts L)),(2, .ptr s.length 32 0),(5,i64 0)] ([(32, .cell (vT t))]::s)=
  if allB (rowQ t L) (List.range t.T)=true then some (.exit 0,[(1, .sl .no 1 (es cInts L)),(2, .ptr s.length 32 0),(5,i64 L.length),(19, .bool false)],[(32, .cell (vT t))]::s)else some (.ret,[(4, .bool false)],[(32, .cell (vT t))]::s):=by
 have hcc:=ht.cc
 have htt:=ht.tt
 have eT:t.T=t.times.toNat:=rfl
 have eC:t.C=t.chambers.toNat:=rfl
 have key:=loop_list (T:=T) (live:=[1,2,5]) (keep:=[32]) (b:=d98l0) (List.range t.T) (fun k (_:Unit)=> ∀j,j<k→rowQ t L j=true) (fun k _=>[(1, .sl .no 1 (es cInts L)),(2, .ptr s.length 32 0),(5,i64 (k:Nat))]) (fun _ _=>[(32, .cell (vT t))]::s)
  (fun a i=>if rowQ t L i=true then .inl a else .inr (.ret,[(4, .bool false)],[(32, .cell (vT t))]::s)) (fun _=>(.exit 0,[(1, .sl .no 1 (es cInts L)),(2, .ptr s.length 32 0),(5,i64 L.length),(19, .bool false)],[(32, .cell (vT t))]::s)) ?_ ?_ ?_ ?_ (by simp) () (by intro j hj;omega) [(1, .sl .no 1 (es cInts L)),(2, .ptr s.length 32 0),(5,i64 0)] ([(32, .cell (vT t))]::s) (by simp) (by simp)
 ·rw[foldS_all]at key
  unfold allB
  rw[show Run T b98l0=Run T (.loop [1,2,5] [32] d98l0)from rfl,key]
  split<;>rfl
 ·intro k _ hk hI
  simp only[List.length_range]at hk
  simp only[List.getElem_range]
  have hk1:k<L.length:=by omega
  have hk2:(k:Int)<L.length:=by omega
  have hk9:k<1000:=by omega
  have hx:=hr _ (List.getElem_mem hk1)
  have eL:L.getD k []=L[k]:=by simp[List.getD,hk1]
  have h1:=e_truth_l1 t L k hk1 hx s
  by_cases q1:(L[k].length:Int)=t.chambers
  rotate_left
  ·have e:rowQ t L k=false:=by unfold rowQ;rw[eL,decide_eq_false q1];rfl
   rw[e]
   generalize hR:L[k]=R at*
   simp (maxSteps:=6000000) (disch:=first|omega|assumption|decide +kernel|(simp;done)|(simp;omega)|fail) [run_drawnK,orSlow_none,hk1,hk2,hR,q1]
  cases q2:allB (fun n=>wiB n 0 40) L[k]
  ·have e:rowQ t L k=false:=by unfold rowQ;rw[eL,q2,decide_eq_true q1];rfl
   rw[e]
   rw[q2,if_neg (by simp)]at h1
   generalize hR:L[k]=R at*
   simp (maxSteps:=6000000) (disch:=first|omega|assumption|decide +kernel|(simp;done)|(simp;omega)|fail) [run_drawnK,orSlow_none,hk1,hk2,hR,q1,h1]
  rw[q2,if_pos rfl]at h1
  have hin: ∀n,n∈L[k]→0≤n∧n≤40:=fun n hn=>wiB_iff.1 (allB_iff.1 q2 n hn)
  have h2:=fun lab s=>e_Behind L[k] hx hin 0 (Nat.zero_le _) lab s
  have r0:rowsX L k 0=behindL L[k] 0:=by unfold rowsX;rw[eL]
  have b1:=sum_bound (L[k].drop 0) fun n hn=>hin n (List.mem_of_mem_drop hn)
  simp only[Int.natCast_zero]at h2
  by_cases q3:behindL L[k] 0≤40
  rotate_left
  ·have e:rowQ t L k=false:=by unfold rowQ;rw[eL,q2,decide_eq_true q1,r0,decide_eq_false q3];rfl
   have q3':40<behindL L[k] 0:=by omega
   rw[e]
   clear b1 r0 q3
   generalize behindL L[k] 0=B at*
   generalize hR:L[k]=R at*
   simp (maxSteps:=6000000) (disch:=first|omega|assumption|decide +kernel|(simp;done)|(simp;omega)|fail) [run_drawnK,orSlow_none,hk1,hk2,hR,q1,h1,h2,q3']
  have q3': ¬40<behindL L[k] 0:=by omega
  by_cases h0:k=0
  ·have e:rowQ t L k=true:=by unfold rowQ;rw[eL,q2,decide_eq_true q1,r0,decide_eq_true q3,h0];rfl
   rw[e]
   subst h0
   have hl2:Run T b98l2 [(1, .sl .no 1 (es cInts L)),(2, .ptr s.length 32 0),(5,i64 0),(7,i64 0)] ([(32, .cell (vT t))]::s)=some (.exit 4,[(1, .sl .no 1 (es cInts L)),(2, .ptr s.length 32 0),(5,i64 0),(7,i64 0),(61, .bool false)],[(32, .cell (vT t))]::s):=by
    have hcp:(0:Int)<t.chambers:=by omega
    unfold b98l2
    rw[run_head (e':=[(1, .sl .no 1 (es cInts L)),(2, .ptr s.length 32 0),(5,i64 0),(7,i64 0)]) (s':=[(32, .cell (vT t))]::s) _ _ _ _ _ (by simp) (by simp)]
    simp (maxSteps:=1000000) (disch:=first|omega|assumption|decide +kernel|(simp;done)|(simp;omega)|fail) [hcp]
   clear b1 r0 q3
   simp only[Int.natCast_zero]at h1
   generalize behindL L[0] 0=B at*
   generalize hR:L[0]=R at*
   simp (maxSteps:=6000000) (disch:=first|omega|assumption|decide +kernel|(simp;done)|(simp;omega)|fail) [run_drawnK,orSlow_none,hk1,hk2,hR,q1,h1,h2,q3',hl2,wi]
  ·have hk4:k-1<L.length:=by omega
   have hprev:=rowQ_ok (hI (k-1) (by omega))
   have eP:L.getD (k-1) []=L[k-1]:=by simp[List.getD,hk4]
   rw[eP]at hprev
   have h3:=e_truth_l2 t ht ho L k hk1 hT (by omega) ⟨q1,hin⟩ hprev s
   cases q4:allB (stepQ t L k) (List.range t.C)
   ·have e:rowQ t L k=false:=by unfold rowQ;rw[eL,q2,decide_eq_true q1,r0,decide_eq_true q3,q4];simp[h0]
    rw[e]
    rw[q4,if_neg (by simp)]at h3
    clear b1 r0 q3 hprev eP
    generalize behindL L[k] 0=B at*
    generalize hR:L[k]=R at*
    simp (maxSteps:=6000000) (disch:=first|omega|assumption|decide +kernel|(simp;done)|(simp;omega)|fail) [run_drawnK,orSlow_none,hk1,hk2,hR,q1,h1,h2,h3,q3']
   ·have e:rowQ t L k=true:=by unfold rowQ;rw[eL,q2,decide_eq_true q1,r0,decide_eq_true q3,q4];simp
    rw[e]
    rw[q4,if_pos rfl]at h3
    clear b1 r0 q3 hprev eP
    generalize behindL L[k] 0=B at*
    generalize hR:L[k]=R at*
    simp (maxSteps:=6000000) (disch:=first|omega|assumption|decide +kernel|(simp;done)|(simp;omega)|fail) [run_drawnK,orSlow_none,hk1,hk2,hR,q1,h1,h2,h3,q3',wk k (by omega)]
 ·intro k a a' hk hI h j hj
  simp only[List.getElem_range]at h
  by_cases e:j<k
  ·exact hI j e
  ·have:j=k:=by omega
   subst this
   cases q:rowQ t L j
   ·rw[q]at h;simp at h
   ·rfl
 ·intro k a q hk hI h
  simp only[List.getElem_range]at h
  split at h<;>simp at h
  rw[←h];simp
 ·intro a hI
  simp only[List.length_range]
  have hz:((t.T:Nat):Int)=L.length:=by omega
  rw[hz]
  simp (maxSteps:=1000000) (disch:=first|omega|assumption|decide +kernel|(simp;done)|(simp;omega)|fail) []
set_option maxHeartbeats 4000000 in
theorem e_truth_l3(t:CTrap)(ht:TrapOk t)(L:List (List Int))(hT:(L.length:Int)=t.times)(hrow: ∀i,i<L.length→((L.getD i []).length:Int)=t.chambers)(s:Stk):
 ∃g:CWord,Run T b98l3 [(1, .sl .no 1 (es cInts L)),(2, .ptr s.length 32 0),(9,i64 0)] ([(32, .cell (vT t))]::s)=
  if allB (wordQ L) t.words=true then some (.exit 6,[(1, .sl .no 1 (es cInts L)),(2, .ptr s.length 32 0),(9,i64 t.words.length),(99, .bool false)],[(32, .cell (vT t))]::s)else some (.ret,[(4, .bool false)],[(32, .cell (vT t)),(160, .cell (cWord g))]::s):=by
 have hw9:=ht.words
 refine loop_all_g (T:=T) (b:=d98l3) t.words (wordQ L) (fun k=>[(1, .sl .no 1 (es cInts L)),(2, .ptr s.length 32 0),(9,i64 k)]) (fun _=>[(32, .cell (vT t))]::s) (fun g:CWord=>(.ret,[(4, .bool false)],[(32, .cell (vT t)),(160, .cell (cWord g))]::s)) _ (by simp) (by simp) ?_ (by simp) _ _ (by simp) (by simp)
 intro k hk
 refine⟨t.words[k],?_⟩
 have hk2:(k:Int)<t.words.length:=by omega
 have hw:=wordOk_iff.1 (ht.word _ (List.getElem_mem hk))
 unfold wordQ
 generalize hx:t.words[k]=w at*
 obtain⟨w0,w1,w2,w3⟩:=w
 dsimp only at*
 obtain⟨i,rfl⟩: ∃i:Nat,w0=i:=⟨w0.toNat,by omega⟩
 obtain⟨c,rfl⟩: ∃c:Nat,w1=c:=⟨w1.toNat,by omega⟩
 simp only[Int.toNat_natCast]
 have hi:i<L.length:=by omega
 have hi2:(i:Int)<L.length:=by omega
 have hl:=hrow i hi
 have eL:L.getD i []=L[i]:=by simp[List.getD,hi]
 rw[eL]at hl
 simp only[eL]
 have hc:c<L[i].length:=by omega
 have hc2:(c:Int)<L[i].length:=by omega
 have ec:L[i].getD c 0=L[i][c]:=by simp[List.getD,hc]
 simp only[ec]
 clear hl hw ec eL
 generalize hR:L[i]=R at*
 generalize hz:R[c]=z at*
 cases h:wiB z w2 w3
 ·simp (maxSteps:=6000000) (disch:=first|omega|assumption|decide +kernel|(simp;done)|(simp;omega)|fail) [run_drawnK,orSlow_none,hk,hk2,hx,hi,hi2,hc,hc2,hR,hz,h,wk k (by omega)]
 ·simp (maxSteps:=6000000) (disch:=first|omega|assumption|decide +kernel|(simp;done)|(simp;omega)|fail) [run_drawnK,orSlow_none,hk,hk2,hx,hi,hi2,hc,hc2,hR,hz,h,wk k (by omega)]
theorem e_IsTruth(t:CTrap)(ht:TrapOk t)(ho: ∀x,x∈t.opn→x.length<4611686018427387904)(L:List (List Int))(hL:L.length<1000000)(hr: ∀r,r∈L→r.length<1000000)(lab s):den T 98 [.agg (vT t), .sl .no 1 (es cInts L)] lab s=some (.bool (truthT t L),s):=by
 rw[truthT_rows]
 rw[den_fn t98 _ _ _ rfl]
 simp only[b98]
 by_cases hT:(L.length:Int)=t.times
 rotate_left
 ·simp (maxSteps:=6000000) (disch:=first|omega|assumption|decide +kernel|(simp;done)|(simp;omega)|fail) [hT]
 have htt:=ht.tt
 have eT:t.T=t.times.toNat:=rfl
 have h0:=e_truth_l0 t ht ho L hT hr s
 cases q0:allB (rowQ t L) (List.range t.T)
 ·rw[q0,if_neg (by simp)]at h0
  simp (maxSteps:=6000000) (disch:=first|omega|assumption|decide +kernel|(simp;done)|(simp;omega)|fail) [hT,h0]
 have hrow: ∀i,i<L.length→((L.getD i []).length:Int)=t.chambers:=fun i hi=>(rowQ_ok (allB_iff.1 q0 i (List.mem_range.2 (by omega)))).1
 obtain⟨g,h3⟩:=e_truth_l3 t ht L hT hrow s
 rw[q0,if_pos rfl]at h0
 cases q1:allB (wordQ L) t.words
 ·rw[q1,if_neg (by simp)]at h3
  simp (maxSteps:=6000000) (disch:=first|omega|assumption|decide +kernel|(simp;done)|(simp;omega)|fail) [hT,h0,h3]
 ·rw[q1,if_pos rfl]at h3
  simp (maxSteps:=6000000) (disch:=first|omega|assumption|decide +kernel|(simp;done)|(simp;omega)|fail) [hT,h0,h3]
end Go.Proofs.YthghcainodgnkaaGreat

/-
  Watch: falses, isTale.
-/
namespace Go.Proofs.YthghcainodgnkaaGreat
open Go.Ab
def pickFs(b:WBook)(L:List (List Int))(a:List Int)(i:Nat):List Int:=if wordF L (b.trap.words.getD i default)=true then a else a ++[(i:Int)]
theorem pickFs_fold(b:WBook)(L:List (List Int)): ∀(l:List Nat) (a:List Int),l.foldl (pickFs b L) a=a ++((l.filter fun(i:Nat)=> !wordF L (b.trap.words.getD i default)).map fun(i:Nat)=>(i:Int))
 |[],a=>by simp
 |i::l,a=>by
   rw[List.foldl_cons,pickFs_fold b L l,List.filter_cons]
   unfold pickFs
   cases wordF L (b.trap.words.getD i default)<;>simp
set_option maxHeartbeats 4000000 in
theorem e_falses_l(b:WBook)(hok:BookOk b)(L:List (List Int))(hT:L.length=b.T)(hrow: ∀i,i<b.T→(L.getD i []).length=b.trap.C)(s:Stk):
 Run T b45l0 [(5, .sl (.own s.length 81) 1 []),(1, .sl .no 1 (es cInts L)),(2, .ptr s.length 32 0),(5, .sl .full 1 []),(6,i64 0)] ([(32, .cell (vB b)),(81, .tok 0)]::s)=some (.exit 0,[(1, .sl .no 1 (es cInts L)),(2, .ptr s.length 32 0),(5, .sl (.own s.length 81) 1 (es cInt ((List.range b.trap.words.length).foldl (pickFs b L) ([]:List Int)))),(6,i64 ((List.range b.trap.words.length).length:Nat)),(13, .bool false)],[(32, .cell (vB b)),(81, .tok (((List.range b.trap.words.length).foldl (pickFs b L) ([]:List Int))).length)]::s):=by
 have key:=loop_fold (T:=T) (live:=[1,2,5,6]) (keep:=[32,81]) (b:=d45l0) (List.range b.trap.words.length) (fun k a=>a.length≤k) (pickFs b L) (fun k (a:List Int)=>[(1, .sl .no 1 (es cInts L)),(2, .ptr s.length 32 0),(5, .sl (.own s.length 81) 1 (es cInt a)),(6,i64 (k:Nat))]) (fun k (a:List Int)=>[(32, .cell (vB b)),(81, .tok (a).length)]::s) (fun(a:List Int)=>(.exit 0,[(1, .sl .no 1 (es cInts L)),(2, .ptr s.length 32 0),(5, .sl (.own s.length 81) 1 (es cInt a)),(6,i64 ((List.range b.trap.words.length).length:Nat)),(13, .bool false)],[(32, .cell (vB b)),(81, .tok (a).length)]::s)) (by simp) ?_ ?_ ?_ ([]:List Int) (by simp) [(5, .sl (.own s.length 81) 1 []),(1, .sl .no 1 (es cInts L)),(2, .ptr s.length 32 0),(5, .sl .full 1 []),(6,i64 0)] ([(32, .cell (vB b)),(81, .tok 0)]::s) (by simp) (by simp)
 ·exact key
 ·intro k a hk hi
  try simp only[List.length_range]at hk
  try simp only[List.getElem_range]
  have hw9:=hok.trap.words
  have hk2:(k:Int)<b.trap.words.length:=by omega
  have hk9:k<1000:=by omega
  have hw:=wordOk_iff.1 (hok.trap.word _ (List.getElem_mem hk))
  have e1:b.T=b.trap.times.toNat:=rfl
  have e2:b.trap.C=b.trap.chambers.toNat:=rfl
  have e0:es cInt a ++[[i64 (k:Nat)]]=es cInt (a ++[(k:Int)]):=by simp[es]
  have eg:b.trap.words.getD k default=b.trap.words[k]:=by simp[List.getD,hk]
  unfold pickFs wordF
  rw[eg]
  clear eg
  generalize hx:b.trap.words[k]=w at*
  obtain⟨w0,w1,w2,w3⟩:=w
  dsimp only at*
  obtain⟨i,rfl⟩: ∃i:Nat,w0=i:=⟨w0.toNat,by omega⟩
  obtain⟨c,rfl⟩: ∃c:Nat,w1=c:=⟨w1.toNat,by omega⟩
  simp only[Int.toNat_natCast]
  have hi:i<L.length:=by omega
  have hi2:(i:Int)<L.length:=by omega
  have hl:=hrow i (by omega)
  have eL:L.getD i []=L[i]:=by simp[List.getD,hi]
  rw[eL]at hl
  simp only[eL]
  have hc:c<L[i].length:=by omega
  have hc2:(c:Int)<L[i].length:=by omega
  have ec:L[i].getD c 0=L[i][c]:=by simp[List.getD,hc]
  simp only[ec]
  clear hl hw ec eL e1 e2
  generalize hR:L[i]=R at*
  generalize hz:R[c]=z at*
  cases h:wiB z w2 w3
  ·simp (maxSteps:=6000000) (disch:=first|omega|assumption|decide +kernel|(simp;done)|(simp;omega)|fail) [run_drawnK,orSlow_none,hk,hk2,hx,hi,hi2,hc,hc2,hR,hz,h,e0,appK_own1,wk k (by omega)]
  ·simp (maxSteps:=6000000) (disch:=first|omega|assumption|decide +kernel|(simp;done)|(simp;omega)|fail) [run_drawnK,orSlow_none,hk,hk2,hx,hi,hi2,hc,hc2,hR,hz,h,wk k (by omega)]
 ·intro k a hk hi
  try simp only[List.length_range]at hk
  try simp only[List.getElem_range]
  unfold pickFs
  split<;>(try simp only[List.length_append,List.length_cons,List.length_nil])<;>omega
 ·intro a hi
  simp
theorem e_falses(b:WBook)(hok:BookOk b)(L:List (List Int))(hT:L.length=b.T)(hrow: ∀i,i<b.T→(L.getD i []).length=b.trap.C)(lab s):den T 45 [.agg (vB b), .sl .no 1 (es cInts L)] lab s=some (.sl .no 1 (es cInt (falsesL b L)),s):=by
 have h:=e_falses_l b hok L hT hrow s
 rw[pickFs_fold,List.nil_append]at h
 rw[show((List.range b.trap.words.length).filter fun(i:Nat)=> !wordF L (b.trap.words.getD i default)).map (fun(i:Nat)=>(i:Int))=falsesL b L from rfl]at h
 generalize falsesL b L=M at*
 rw[den_fn t45 _ _ _ rfl]
 simp only[b45]
 simp (maxSteps:=6000000) (disch:=first|omega|assumption|decide +kernel|(simp;done)|(simp;omega)|fail) [h]
def rows40(L:List (List Int)):Bool:=allB (fun r=>decide (r.length≤40)) L
def taleB(b:WBook)(g:List Int)(L:List (List Int)):Bool:=decide (g.length≤40)&&(decide (L.length≤40)&&(canR b g&&(rows40 L&&truthT (trapOf b g) L)))
theorem e_isTale_l(b:WBook)(g:List Int)(L:List (List Int))(hL:L.length≤40)(s:Stk):
 Run T b44l0 [(2, .ptr s.length 32 0),(3, .ptr s.length 48 0),(5,i64 0)] ([(32, .cell (vB b)),(48, .cell [.sl .no 1 (es cInt g), .sl .no 1 (es cInts L)])]::s)=
  if rows40 L=true then some (.exit 0,[(2, .ptr s.length 32 0),(3, .ptr s.length 48 0),(5,i64 L.length),(27, .bool false)],[(32, .cell (vB b)),(48, .cell [.sl .no 1 (es cInt g), .sl .no 1 (es cInts L)])]::s)else some (.ret,[(4, .bool false)],[(32, .cell (vB b)),(48, .cell [.sl .no 1 (es cInt g), .sl .no 1 (es cInts L)])]::s):=by
 refine loop_all L (fun r=>decide (r.length≤40)) (fun k=>[(2, .ptr s.length 32 0),(3, .ptr s.length 48 0),(5,i64 k)]) (fun _=>[(32, .cell (vB b)),(48, .cell [.sl .no 1 (es cInt g), .sl .no 1 (es cInts L)])]::s) _ _ (by simp) (by simp) ?_ (by simp) _ _ (by simp) (by simp)
 intro k hk
 have hk2:(k:Int)<L.length:=by omega
 generalize hR:L[k]=R at*
 by_cases h:R.length≤40
 ·have h2: ¬(40:Int)<R.length:=by omega
  simp (maxSteps:=1000000) (disch:=first|omega|assumption|decide +kernel|(simp;done)|(simp;omega)|fail) [hk,hk2,hR,h,h2,wk k (by omega)]
 ·have h2:(40:Int)<R.length:=by omega
  simp (maxSteps:=1000000) (disch:=first|omega|assumption|decide +kernel|(simp;done)|(simp;omega)|fail) [hk,hk2,hR,h,h2,wk k (by omega)]
set_option maxHeartbeats 8000000 in
theorem e_isTale(b:WBook)(hB:bookB b=true)(hc:CopyB b)(g:List Int)(L:List (List Int))(hg:g.length<4611686018427387904)(hL:L.length<4611686018427387904)(lab s):den T 44 [.agg (vB b), .agg [.sl .no 1 (es cInt g), .sl .no 1 (es cInts L)]] lab s=some (.bool (taleB b g L),s):=by
 unfold taleB
 rw[den_fn t44 _ _ _ rfl]
 simp only[b44]
 by_cases c1:g.length≤40
 rotate_left
 ·have c1':(40:Int)<g.length:=by omega
  simp (maxSteps:=6000000) (disch:=first|omega|assumption|decide +kernel|(simp;done)|(simp;omega)|fail) [c1,c1']
 have c1': ¬(40:Int)<g.length:=by omega
 by_cases c2:L.length≤40
 rotate_left
 ·have c2':(40:Int)<L.length:=by omega
  simp (maxSteps:=6000000) (disch:=first|omega|assumption|decide +kernel|(simp;done)|(simp;omega)|fail) [c1,c1',c2,c2']
 have c2': ¬(40:Int)<L.length:=by omega
 have htt:=(bookB_ok hB).trap.tt
 have h1:=fun lab s=>e_CanBe b hc (by omega) (trapB_mid (bookB_trap hB)) g (by omega) lab s
 cases c3:canR b g
 ·rw[c3]at h1
  simp (maxSteps:=6000000) (disch:=first|omega|assumption|decide +kernel|(simp;done)|(simp;omega)|fail) [c1,c1',c2,c2',h1]
 rw[c3]at h1
 have h2:=e_isTale_l b g L c2 s
 cases c4:rows40 L
 ·rw[c4,if_neg (by simp)]at h2
  simp (maxSteps:=6000000) (disch:=first|omega|assumption|decide +kernel|(simp;done)|(simp;omega)|fail) [c1,c1',c2,c2',h1,h2]
 rw[c4,if_pos rfl]at h2
 have hr: ∀r,r∈L→r.length<1000000:=fun r hr=>by
  have:=allB_iff.1 c4 r hr
  simp only[decide_eq_true_eq]at this
  omega
 have h3:=fun lab s=>e_TrapOf b hc g (by omega) lab s
 have h4:=fun lab s=>e_IsTruth (trapOf b g) (trapOf_ok (bookB_ok hB) g) (trapOf_open hB g) L (by omega) hr lab s
 generalize truthT (trapOf b g) L=q at*
 generalize trapOf b g=t2 at*
 simp (maxSteps:=6000000) (disch:=first|omega|assumption|decide +kernel|(simp;done)|(simp;omega)|fail) [run_drawnK,orSlow_none,c1,c1',c2,c2',h1,h2,h3,h4]
theorem taleB_ok {b:WBook}(hB:bookB b=true) {g:List Int} {L:List (List Int)}(h:taleB b g L=true):g.length≤40∧L.length≤40∧canR b g=true∧TaleF b g L:=by
 simp only[taleB,Bool.and_eq_true,decide_eq_true_eq]at h
 obtain⟨h1,h2,h3,_,h5⟩:=h
 have hok:=bookB_ok hB
 have htt:=hok.trap.tt
 have eT:b.T=b.trap.times.toNat:=rfl
 have h3':=h3
 simp only[canR,Bool.and_eq_true]at h3'
 obtain⟨r1,r2⟩:=rising_iff.1 h3'.1
 exact⟨h1,h2,h3,tale_of hok (allL_mem.2 ⟨r1,fun y hy=>by have:=r2 y hy;omega⟩) h3'.2 h5⟩
end Go.Proofs.YthghcainodgnkaaGreat

/-
  Watch: WatchEach.
-/
namespace Go.Proofs.YthghcainodgnkaaGreat
open Go.Ab
def eachX(b:WBook)(g:List Int)(L:List (List Int)):Ab.Loc:=[(32, .cell (vB b)),(48, .cell [.sl .no 1 (es cInt g), .sl .no 1 (es cInts L)])]
set_option maxHeartbeats 3000000 in
theorem e_Each_l0(b:WBook)(hB:bookB b=true)(hc:CopyB b)(g:List Int)(hg:g.length≤40)(L:List (List Int))(t:TaleF b g L)(s:Stk)(e:Env)(st:Stk)(he:gcEnv [2,3,9,10] [32,48] e st=[(2, .ptr s.length 32 0),(3, .ptr s.length 48 0),(9, .sl .no 1 (es cInt (falsesL b L))),(10,i64 0)])(hse:gcStk [32,48] st=eachX b g L::s):
 Run T b7l0 e st=
  some (.exit 0,[(2, .ptr s.length 32 0),(3, .ptr s.length 48 0),(9, .sl .no 1 (es cInt (falsesL b L))),(10,i64 b.trap.words.length),(67, .bool false)],eachX b g L::s):=by
 have hok:=bookB_ok hB
 have hw9:=hok.trap.words
 have hne:storiesL b≠[]:=List.ne_nil_of_mem t.story
 obtain⟨_,hbl⟩:=t.blame hok
 obtain⟨fa1,fa2⟩:=allL_mem.1 (falsesL_all b L)
 have fa3:=pair_lenL (lo:=0) fa1 fa2
 have key:=loop_fold (T:=T) (live:=[2,3,9,10]) (keep:=[32,48]) (b:=d7l0) (List.range b.trap.words.length) (fun _ (_:Unit)=>True) (fun _ _=>())
  (fun k _=>[(2, .ptr s.length 32 0),(3, .ptr s.length 48 0),(9, .sl .no 1 (es cInt (falsesL b L))),(10,i64 (k:Nat))]) (fun _ _=>eachX b g L::s)
  (fun _=>(.exit 0,[(2, .ptr s.length 32 0),(3, .ptr s.length 48 0),(9, .sl .no 1 (es cInt (falsesL b L))),(10,i64 b.trap.words.length),(67, .bool false)],eachX b g L::s))
  (by simp) ?_ ?_ ?_ () trivial e st he hse
 ·exact key
 ·intro k _ hk _
  simp only[List.length_range]at hk
  have hk2:(k:Int)<b.trap.words.length:=by omega
  have hk9:k<1000:=by omega
  have h1:=fun lab s=>e_LiesW b hc k lab s
  have hp:wiB (k:Int) 0 ((b.trap.words.length:Int)-1)=true:=wiB_iff.2 (by omega)
  unfold liesV11 at h1
  rw[open11_B hB,hp,if_pos rfl,if_neg hne,if_pos rfl]at h1
  have i1:=fun lab s=>e_In (falsesL b L) k (by omega) lab s
  rw[in_contains]at i1
  obtain⟨q1,q2⟩:=t.lies hok hk
  obtain⟨r1,r2⟩:=liesV_range b (wordAt b k)
  have hv3:wiB (liesV b (wordAt b k)) 1 3=true:=wiB_iff.2 ⟨r1,r2⟩
  have hmem:(falsesL b L).contains (k:Int)= !wordF L (wordAt b k):=by
   rw[Bool.eq_iff_iff,List.contains_eq_mem,decide_eq_true_eq,falsesL_mem]
   constructor
   ·rintro⟨i,e,_,hf⟩
    have:i=k:=by omega
    subst this;rw[hf];rfl
   ·intro hf
    exact⟨k,rfl,hk,by simpa using hf⟩
  have ew:wordAt b (k:Int)=b.trap.words[k]:=by simp[wordAt,List.getD,hk]
  have htg:=hbl k
  rw[←List.contains_iff_mem,hmem]at htg
  rw[hmem]at i1
  rw[ew]at h1 q1 q2 hv3 htg i1
  have i2:=fun lab s=>e_In g b.trap.words[k].time (by omega) lab s
  rw[in_contains]at i2
  clear hmem ew hp r1 r2 hbl fa1 fa2 fa3
  generalize hwf:wordF L b.trap.words[k]=c at*
  generalize liesV b b.trap.words[k]=v at*
  generalize falsesL b L=M at*
  generalize hw:b.trap.words[k]=w at*
  obtain⟨w0,w1,w2,w3⟩:=w
  dsimp only at*
  cases c
  ·have q1:=q1 rfl
   have htg:=htg rfl
   rw[List.contains_eq_mem,decide_eq_true htg]at i2
   by_cases hv1:v=1
   ·subst hv1
    simp (maxSteps:=6000000) (disch:=first|omega|assumption|decide +kernel|(simp;done)|(simp;omega)|fail) [run_drawnK,orSlow_none,eachX,hk,hk2,hw,h1,i1,i2,-e_In,hv3,wk k (by omega)]
   ·simp (maxSteps:=6000000) (disch:=first|omega|assumption|decide +kernel|(simp;done)|(simp;omega)|fail) [run_drawnK,orSlow_none,eachX,hk,hk2,hw,h1,i1,i2,-e_In,hv3,hv1,q1,wk k (by omega)]
  ·have q2:=q2 rfl
   by_cases hv2:v=2
   ·subst hv2
    simp (maxSteps:=6000000) (disch:=first|omega|assumption|decide +kernel|(simp;done)|(simp;omega)|fail) [run_drawnK,orSlow_none,eachX,hk,hk2,hw,h1,i1,-e_In,hv3,wk k (by omega)]
   ·simp (maxSteps:=6000000) (disch:=first|omega|assumption|decide +kernel|(simp;done)|(simp;omega)|fail) [run_drawnK,orSlow_none,eachX,hk,hk2,hw,h1,i1,-e_In,hv3,hv2,q2,wk k (by omega)]
 ·intro k _ hk _
  trivial
 ·intro _ _
  simp[eachX]
set_option maxHeartbeats 8000000 in
theorem e_Each_l2(b:WBook)(hB:bookB b=true)(hc:CopyB b)(g:List Int)(L:List (List Int))(t:TaleF b g L)(i:Nat)(hi0:i<L.length)(s:Stk):
 Run T b7l2 [(2, .ptr s.length 32 0),(3, .ptr s.length 48 0),(14,i64 (i:Nat)),(15,i64 0)] ([(32, .cell (vB b)),(48, .cell [.sl .no 1 (es cInt g), .sl .no 1 (es cInts L)])]::s)=some (.exit 4,[(2, .ptr s.length 32 0),(3, .ptr s.length 48 0),(14,i64 (i:Nat)),(15,i64 ((List.range L[i].length).length:Nat)),(128, .bool false)],[(32, .cell (vB b)),(48, .cell [.sl .no 1 (es cInt g), .sl .no 1 (es cInts L)])]::s):=by
 have key:=loop_fold (T:=T) (live:=[2,3,14,15]) (keep:=[32,48]) (b:=d7l2) (List.range L[i].length) (fun _ _=>True) (fun _ _=>()) (fun k (a:Unit)=>[(2, .ptr s.length 32 0),(3, .ptr s.length 48 0),(14,i64 (i:Nat)),(15,i64 (k:Nat))]) (fun k (a:Unit)=>[(32, .cell (vB b)),(48, .cell [.sl .no 1 (es cInt g), .sl .no 1 (es cInts L)])]::s) (fun(a:Unit)=>(.exit 4,[(2, .ptr s.length 32 0),(3, .ptr s.length 48 0),(14,i64 (i:Nat)),(15,i64 ((List.range L[i].length).length:Nat)),(128, .bool false)],[(32, .cell (vB b)),(48, .cell [.sl .no 1 (es cInt g), .sl .no 1 (es cInts L)])]::s)) (by simp) ?_ ?_ ?_ () (by simp) [(2, .ptr s.length 32 0),(3, .ptr s.length 48 0),(14,i64 (i:Nat)),(15,i64 0)] ([(32, .cell (vB b)),(48, .cell [.sl .no 1 (es cInt g), .sl .no 1 (es cInts L)])]::s) (by simp) (by simp)
 ·exact key
 ·intro k a hk hi
  try simp only[List.length_range]at hk
  try simp only[List.getElem_range]
  have hok:=bookB_ok hB
  have htt:=hok.trap.tt
  have hcc:=hok.trap.cc
  have hne:storiesL b≠[]:=List.ne_nil_of_mem t.story
  have eL:L.getD i []=L[i]:=by simp[List.getD,hi0]
  have hT:=t.len
  have hrow:=t.row i (by omega)
  have e1:b.T=b.trap.times.toNat:=rfl
  have e2:b.trap.C=b.trap.chambers.toNat:=rfl
  rw[eL]at hrow
  have hi2:(i:Int)<L.length:=by omega
  have hk2:(k:Int)<L[i].length:=by omega
  have hk9:k<1000:=by omega
  have h1:=fun lab s=>e_FishW b hc (trapB_mid (bookB_trap hB)) i k lab s
  rw[fish_in hB hne (by omega) (by omega)]at h1
  have hf:=t.fish hok (i:=i) (c:=k) (by omega) (by omega)
  rw[eL,show L[i].getD k 0=L[i][k]by simp[List.getD,hk]]at hf
  have h3:=fun lab s=>e_has11 (spanW b i k i (k+1)) L[i][k] lab s
  rw[decide_eq_true hf.1,decide_eq_true hf.2]at h3
  clear hf hrow eL e1 e2 htt hcc hT
  generalize spanW b i k i (k+1)=x at*
  generalize hR:L[i]=R at*
  generalize hz:R[k]=z at*
  simp (maxSteps:=6000000) (disch:=first|omega|assumption|decide +kernel|(simp;done)|(simp;omega)|fail) [run_drawnK,orSlow_none,hi0,hi2,hR,hk,hk2,hz,h1,h3,wk k (by omega)]
 ·intro k a hk hi
  try simp only[List.length_range]at hk
  try simp only[List.getElem_range]
  try simp
 ·intro a hi
  have hi2:(i:Int)<L.length:=by omega
  simp only[List.length_range]
  generalize hR:L[i]=R at*
  simp (maxSteps:=1000000) (disch:=first|omega|assumption|decide +kernel|(simp;done)|(simp;omega)|fail) [hi0,hi2,hR]
set_option maxHeartbeats 8000000 in
theorem e_Each_l1(b:WBook)(hB:bookB b=true)(hc:CopyB b)(g:List Int)(L:List (List Int))(t:TaleF b g L)(s:Stk):
 Run T b7l1 [(2, .ptr s.length 32 0),(3, .ptr s.length 48 0),(14,i64 0)] ([(32, .cell (vB b)),(48, .cell [.sl .no 1 (es cInt g), .sl .no 1 (es cInts L)])]::s)=some (.exit 2,[(2, .ptr s.length 32 0),(3, .ptr s.length 48 0),(14,i64 ((List.range L.length).length:Nat)),(118, .bool false)],[(32, .cell (vB b)),(48, .cell [.sl .no 1 (es cInt g), .sl .no 1 (es cInts L)])]::s):=by
 have key:=loop_fold (T:=T) (live:=[2,3,14]) (keep:=[32,48]) (b:=d7l1) (List.range L.length) (fun _ _=>True) (fun _ _=>()) (fun k (a:Unit)=>[(2, .ptr s.length 32 0),(3, .ptr s.length 48 0),(14,i64 (k:Nat))]) (fun k (a:Unit)=>[(32, .cell (vB b)),(48, .cell [.sl .no 1 (es cInt g), .sl .no 1 (es cInts L)])]::s) (fun(a:Unit)=>(.exit 2,[(2, .ptr s.length 32 0),(3, .ptr s.length 48 0),(14,i64 ((List.range L.length).length:Nat)),(118, .bool false)],[(32, .cell (vB b)),(48, .cell [.sl .no 1 (es cInt g), .sl .no 1 (es cInts L)])]::s)) (by simp) ?_ ?_ ?_ () (by simp) [(2, .ptr s.length 32 0),(3, .ptr s.length 48 0),(14,i64 0)] ([(32, .cell (vB b)),(48, .cell [.sl .no 1 (es cInt g), .sl .no 1 (es cInts L)])]::s) (by simp) (by simp)
 ·exact key
 ·intro k a hk hi
  try simp only[List.length_range]at hk
  try simp only[List.getElem_range]
  have hT:=t.len
  have ht6:=(bookB_ok hB).t6
  have hk2:(k:Int)<L.length:=by omega
  have hk9:k<1000:=by omega
  have h1:=e_Each_l2 b hB hc g L t k hk s
  generalize hR:L[k]=R at*
  simp (maxSteps:=6000000) (disch:=first|omega|assumption|decide +kernel|(simp;done)|(simp;omega)|fail) [run_drawnK,orSlow_none,hk,hk2,h1,wk k (by omega)]
 ·intro k a hk hi
  try simp only[List.length_range]at hk
  try simp only[List.getElem_range]
  try simp
 ·intro a hi
  simp
set_option maxHeartbeats 32000000 in
theorem e_WatchEach(b:WBook)(hs:ShortB b)(g:List Int)(L:List (List Int))(hg:g.length<4611686018427387904)(hL:L.length<4611686018427387904)(_: ∀x,x∈L→x.length<4611686018427387904)(lab s):den T 7 [.agg (vB b), .agg [.sl .no 1 (es cInt g), .sl .no 1 (es cInts L)]] lab s=some (.bool true,s):=by
 have h1:=fun lab s=>e_ready b hs lab s
 cases c1:readyK b
 ·rw[den_fn t7 _ _ _ rfl]
  simp only[b7]
  simp (maxSteps:=6000000) (disch:=first|omega|assumption|decide +kernel|(simp;done)|(simp;omega)|fail) [h1,c1]
 obtain⟨hc,hB,_⟩:=readyK_ok c1
 have h2:=fun lab s=>e_isTale b hB hc g L hg hL lab s
 cases c2:taleB b g L
 ·rw[c2]at h2
  rw[den_fn t7 _ _ _ rfl]
  simp only[b7]
  simp (maxSteps:=6000000) (disch:=first|omega|assumption|decide +kernel|(simp;done)|(simp;omega)|fail) [h1,c1,h2]
 rw[c2]at h2
 obtain⟨g40,L40,hcan,t⟩:=taleB_ok hB c2
 have hok:=bookB_ok hB
 have hne:storiesL b≠[]:=List.ne_nil_of_mem t.story
 have h3:=fun lab s=>e_Good b hc g (by omega) lab s
 have hone:=(story_can (story_mem.1 t.story).2).2
 rw[hB,hcan,hone,if_pos rfl]at h3
 have h4:=fun lab s=>e_lies11 b hB hc lab s
 unfold falseN at h4
 rw[if_neg hne]at h4
 have h5:=fun lab s=>e_falses b hok L t.len t.row lab s
 obtain⟨hb1,_⟩:=t.blame hok
 have n1: ¬((falsesL b L).length:Int)<(blameL b).length:=by omega
 have h6:=fun e st=>e_Each_l0 b hB hc g g40 L t s e st
 have h7:=e_Each_l1 b hB hc g L t s
 have hg0:g=[]∨es cInt g≠[]:=by
  by_cases h:g=[]
  ·exact .inl h
  ·exact .inr (by simpa using h)
 simp only[eachX,List.length_range,Bool.true_and,Bool.and_self]at h3 h6 h7
 clear hb1 hone hcan hne t hok c2
 generalize falsesL b L=M at*
 generalize blameL b=W at*
 rw[den_fn t7 _ _ _ rfl]
 simp only[b7]
 rcases hg0 with hg0|hg0
 ·subst hg0
  simp only[es_nil]at h2 h3 h6 h7
  simp (maxSteps:=6000000) (disch:=first|omega|assumption|decide +kernel|(simp;done)|(simp;omega)|fail) [run_drawnK,orSlow_none,appD_full_nil,h1,c1,h2,h3,h4,h5,h6,h7,n1]
 ·simp (maxSteps:=6000000) (disch:=first|omega|assumption|decide +kernel|(simp;done)|(simp;omega)|fail) [run_drawnK,orSlow_none,appD_full,hg0,h1,c1,h2,h3,h4,h5,h6,h7,n1]
end Go.Proofs.YthghcainodgnkaaGreat

/-
  Watch, laws: Huge, Far, ready (not built yet).
-/
import Derived.Test.YthghcainodgnkaaGreatEq3
import Derived.Test.YthghcainodgnkaaGreatEq1
set_option linter.unusedSimpArgs false
set_option linter.unusedVariables false
namespace Go.Proofs.YthghcainodgnkaaGreat
open Go.Ab
structure ShortB(b:WBook):Prop where
 trap:ShortT b.trap
 sober:b.sober.length<4611686018427387904
def hugeL(l:List (List Int)):Bool:=decide (40<l.length)|| !allB (fun r=>decide (r.length≤40)) l
def hugeT(t:CTrap):Bool:=hugeL t.opn||decide (40<t.words.length)
def hugeK(b:WBook):Bool:=hugeT b.trap||decide (40<b.sober.length)
theorem e_huge_l(l:List (List Int))(hl:l.length≤40)(s:Stk)(he: ∀r,r∈l→r.length<4611686018427387904):
 Run T b132l0 [(0, .sl .no 1 (es cInts l)),(3,i64 0)] ([]::s)=
  if allB (fun r=>decide (r.length≤40)) l=true then some (.exit 0,[(0, .sl .no 1 (es cInts l)),(3,i64 l.length),(10, .bool false)],[]::s)else some (.ret,[(2, .bool true)],[]::s):=by
 refine loop_all l (fun r=>decide (r.length≤40)) (fun k=>[(0, .sl .no 1 (es cInts l)),(3,i64 k)]) (fun _=>[]::s) _ _ (by simp) (by simp) ?_ (by simp) _ _ (by simp) (by simp)
 intro k hk
 have hk2:(k:Int)<l.length:=by omega
 generalize hR:l[k]=R at*
 by_cases h:R.length≤40
 ·have h2: ¬(40:Int)<R.length:=by omega
  simp (maxSteps:=1000000) (disch:=first|omega|assumption|decide +kernel|(simp;done)|(simp;omega)|fail) [hk,hk2,hR,h,h2,wk k (by omega)]
 ·have h2:(40:Int)<R.length:=by omega
  simp (maxSteps:=1000000) (disch:=first|omega|assumption|decide +kernel|(simp;done)|(simp;omega)|fail) [hk,hk2,hR,h,h2,wk k (by omega)]
theorem e_huge(l:List (List Int))(hl:l.length<4611686018427387904)(he: ∀r,r∈l→r.length<4611686018427387904)(lab s):den T 132 [.sl .no 1 (es cInts l)] lab s=some (.bool (hugeL l),s):=by
 unfold hugeL
 rw[den_fn t132 _ _ _ rfl]
 simp only[b132]
 by_cases h:40<l.length
 ·have h2:(40:Int)<l.length:=by omega
  simp (maxSteps:=1000000) (disch:=first|omega|assumption|decide +kernel|(simp;done)|(simp;omega)|fail) [h,h2]
 ·have h2: ¬(40:Int)<l.length:=by omega
  have h1:=e_huge_l l (by omega) s he
  cases ha:allB (fun r=>decide (r.length≤40)) l
  ·rw[ha,if_neg (by simp)]at h1
   simp (maxSteps:=1000000) (disch:=first|omega|assumption|decide +kernel|(simp;done)|(simp;omega)|fail) [h,h2,h1]
  ·rw[ha,if_pos rfl]at h1
   simp (maxSteps:=1000000) (disch:=first|omega|assumption|decide +kernel|(simp;done)|(simp;omega)|fail) [h,h2,h1]
theorem e_Huge01(t:CTrap)(hs:ShortT t)(lab s):den T 88 [.agg (vT t)] lab s=some (.bool (hugeT t),s):=by
 have h1:=fun lab s=>e_huge t.opn hs.opn hs.each lab s
 have hw:=hs.words
 unfold hugeT
 rw[den_fn t88 _ _ _ rfl]
 simp only[b88]
 cases c:hugeL t.opn
 ·by_cases h:40<t.words.length
  ·have h2:(40:Int)<t.words.length:=by omega
   simp (maxSteps:=1000000) (disch:=first|omega|assumption|decide +kernel|(simp;done)|(simp;omega)|fail) [h1,c,h,h2]
  ·have h2: ¬(40:Int)<t.words.length:=by omega
   simp (maxSteps:=1000000) (disch:=first|omega|assumption|decide +kernel|(simp;done)|(simp;omega)|fail) [h1,c,h,h2]
 ·simp (maxSteps:=1000000) (disch:=first|omega|assumption|decide +kernel|(simp;done)|(simp;omega)|fail) [h1,c]
theorem e_Huge11(b:WBook)(hs:ShortB b)(lab s):den T 36 [.agg (vB b)] lab s=some (.bool (hugeK b),s):=by
 have h1:=fun lab s=>e_Huge01 b.trap hs.trap lab s
 have hw:=hs.sober
 unfold hugeK
 rw[den_fn t36 _ _ _ rfl]
 simp only[b36]
 cases c:hugeT b.trap
 ·by_cases h:40<b.sober.length
  ·have h2:(40:Int)<b.sober.length:=by omega
   simp (maxSteps:=1000000) (disch:=first|omega|assumption|decide +kernel|(simp;done)|(simp;omega)|fail) [h1,c,h,h2]
  ·have h2: ¬(40:Int)<b.sober.length:=by omega
   simp (maxSteps:=1000000) (disch:=first|omega|assumption|decide +kernel|(simp;done)|(simp;omega)|fail) [h1,c,h,h2]
 ·simp (maxSteps:=1000000) (disch:=first|omega|assumption|decide +kernel|(simp;done)|(simp;omega)|fail) [h1,c]
theorem hugeK_copy {b:WBook}(h:hugeK b=false):CopyB b:=by
 simp only[hugeK,hugeT,hugeL,Bool.or_eq_false_iff,decide_eq_false_iff_not,Bool.not_eq_false',allB_iff,decide_eq_true_eq]at h
 obtain⟨⟨⟨h1,h2⟩,h3⟩,h4⟩:=h
 exact⟨⟨by omega,by omega,fun l hl=>by have:=h2 l hl;omega⟩,by omega⟩
def farB(b:WBook):Bool:=hugeK b||((decide (3<b.trap.chambers)||decide (4<b.trap.times))&&bookB b)
def readyK(b:WBook):Bool:= !farB b&&bookB b
theorem e_Far(b:WBook)(hs:ShortB b)(lab s):den T 27 [.agg (vB b)] lab s=some (.bool (farB b),s):=by
 have h1:=fun lab s=>e_Huge11 b hs lab s
 unfold farB
 cases c:hugeK b
 ·have h2:=fun lab s=>e_Check11 b (hugeK_copy c) lab s
  rw[den_fn t27 _ _ _ rfl]
  simp only[b27]
  by_cases q1:3<b.trap.chambers
  ·cases q:bookB b<;>simp (maxSteps:=1000000) (disch:=first|omega|assumption|decide +kernel|(simp;done)|(simp;omega)|fail) [h1,h2,c,q1,q]
  ·by_cases q2:4<b.trap.times
   ·cases q:bookB b<;>simp (maxSteps:=1000000) (disch:=first|omega|assumption|decide +kernel|(simp;done)|(simp;omega)|fail) [h1,h2,c,q1,q2,q]
   ·simp (maxSteps:=1000000) (disch:=first|omega|assumption|decide +kernel|(simp;done)|(simp;omega)|fail) [h1,h2,c,q1,q2]
 ·rw[den_fn t27 _ _ _ rfl]
  simp only[b27]
  simp (maxSteps:=1000000) (disch:=first|omega|assumption|decide +kernel|(simp;done)|(simp;omega)|fail) [h1,c]
theorem farB_copy {b:WBook}(h:farB b=false):CopyB b:=by
 unfold farB at h
 exact hugeK_copy (by rw[Bool.or_eq_false_iff]at h;exact h.1)
theorem readyK_ok {b:WBook}(h:readyK b=true):CopyB b∧bookB b=true∧b.trap.chambers≤3∧b.trap.times≤4:=by
 simp only[readyK,Bool.and_eq_true,Bool.not_eq_true']at h
 obtain⟨h1,h2⟩:=h
 refine⟨farB_copy h1,h2,?_⟩
 simp only[farB,Bool.or_eq_false_iff,h2,Bool.and_true,decide_eq_false_iff_not]at h1
 omega
theorem e_ready(b:WBook)(hs:ShortB b)(lab s):den T 16 [.agg (vB b)] lab s=some (.bool (readyK b),s):=by
 have h1:=fun lab s=>e_Far b hs lab s
 unfold readyK
 cases c:farB b
 ·have h2:=fun lab s=>e_Check11 b (farB_copy c) lab s
  rw[den_fn t16 _ _ _ rfl]
  simp only[b16]
  cases q:bookB b<;>simp (maxSteps:=1000000) (disch:=first|omega|assumption|decide +kernel|(simp;done)|(simp;omega)|fail) [h1,h2,c,q]
 ·rw[den_fn t16 _ _ _ rfl]
  simp only[b16]
  simp (maxSteps:=1000000) (disch:=first|omega|assumption|decide +kernel|(simp;done)|(simp;omega)|fail) [h1,c]
end Go.Proofs.YthghcainodgnkaaGreat

/-
  What the arguments of the laws of watch read as.
-/
namespace Go.Proofs.YthghcainodgnkaaGreat
open Go.Ab
set_option maxRecDepth 100000
theorem cells57:Tryz.prog.cellsOf 57=4:=by kernel_rfl
theorem cells3:Tryz.prog.cellsOf 3=1:=by kernel_rfl
theorem cells26:Tryz.prog.cellsOf 26=1:=by kernel_rfl
variable {B : TypeId → Nat → Prop} {n : Nat} {vs : List V}
theorem fit_int(h:Fit Tryz.prog B (n+1) 3 vs): ∃x,vs=[i64 x]:=by
 simp only[Fit,Tryz.underlying3]at h
 exact h
theorem es_all {α:Type} {f:α→List V}(l:List (List V))(h: ∀x∈l,∃y,x=f y): ∃l':List α,l=es f l':=by
 obtain⟨l',h1,_⟩:=es_of (Q:=fun _=>True) l fun x hx=>by obtain⟨y,hy⟩:=h x hx;exact⟨y,hy,trivial⟩
 exact⟨l',h1⟩
theorem fit_ints(h:Fit Tryz.prog B (n+2) 26 vs): ∃l:List Int,vs=[.sl .no 1 (es cInt l)]∧B 3 l.length:=by
 rw[Fit,Tryz.underlying26]at h
 simp only at h
 obtain⟨l,rfl,hb,h⟩:=h
 obtain⟨l',rfl⟩:=es_all (f:=cInt) l fun x hx=>by obtain⟨y,hy⟩:=fit_int (h x hx);exact⟨y,hy⟩
 rw[cells3]
 exact⟨l',rfl,by simpa using hb⟩
theorem fit_lists(h:Fit Tryz.prog B (n+3) 22 vs): ∃l:List (List Int),vs=[.sl .no 1 (es cInts l)]∧B 26 l.length∧ ∀x,x∈l→B 3 x.length:=by
 rw[Fit,Tryz.underlying22]at h
 simp only at h
 obtain⟨l,rfl,hb,h⟩:=h
 obtain⟨l',h1,h2⟩:=es_of (f:=cInts) (Q:=fun x=>B 3 x.length) l fun x hx=>by obtain⟨y,hy,hy2⟩:=fit_ints (h x hx);exact⟨y,hy,hy2⟩
 subst h1
 rw[cells26]
 exact⟨l',rfl,by simpa using hb,h2⟩
theorem fit_cword(h:Fit Tryz.prog B (n+2) 57 vs): ∃x:CWord,vs=cWord x:=by
 rw[Fit,Tryz.underlying57]at h
 simp only[FitF]at h
 obtain⟨_,_,rfl,h0,_,_,rfl,h1,_,_,rfl,h2,_,_,rfl,h3,rfl⟩:=h
 obtain⟨a,rfl⟩:=fit_int h0
 obtain⟨b,rfl⟩:=fit_int h1
 obtain⟨c,rfl⟩:=fit_int h2
 obtain⟨d,rfl⟩:=fit_int h3
 exact⟨⟨a,b,c,d⟩,rfl⟩
theorem fit_words(h:Fit Tryz.prog B (n+3) 23 vs): ∃l:List CWord,vs=[.sl .no 4 (es cWord l)]∧B 57 l.length:=by
 rw[Fit,Tryz.underlying23]at h
 simp only at h
 obtain⟨l,rfl,hb,h⟩:=h
 obtain⟨l',rfl⟩:=es_all (f:=cWord) l fun x hx=>fit_cword (h x hx)
 rw[cells57]
 exact⟨l',rfl,by simpa using hb⟩
def Reach(e:TypeId)(k:Nat):Prop:=k≤maxLen∧k*Tryz.prog.bytesOf e≤reachBytes
theorem bytes57:Tryz.prog.bytesOf 57=32:=by kernel_rfl
theorem bytes3:Tryz.prog.bytesOf 3=8:=by kernel_rfl
theorem bytes26:Tryz.prog.bytesOf 26=24:=by kernel_rfl
theorem reach_ints {k:Nat}(h:Reach 3 k):k<4611686018427387904:=by
 simp only[Reach,bytes3,reachBytes]at h;omega
theorem reach_lists {k:Nat}(h:Reach 26 k):k<4611686018427387904:=by
 simp only[Reach,bytes26,reachBytes]at h;omega
theorem reach_words {k:Nat}(h:Reach 57 k):k<4611686018427387904:=by
 simp only[Reach,bytes57,reachBytes]at h;omega
theorem fit_trap(h:Fit Tryz.prog Reach (n+4) 25 vs): ∃t:CTrap,vs=vT t∧ShortT t:=by
 rw[Fit,Tryz.underlying25]at h
 simp only[FitF]at h
 obtain⟨_,_,rfl,h0,_,_,rfl,h1,_,_,rfl,h2,_,_,rfl,h3,rfl⟩:=h
 obtain⟨a,rfl⟩:=fit_int h0
 obtain⟨b,rfl⟩:=fit_int h1
 obtain⟨c,rfl,q1,q2⟩:=fit_lists h2
 obtain⟨d,rfl,q3⟩:=fit_words h3
 exact⟨⟨a,b,c,d⟩,rfl,reach_lists q1,reach_words q3,fun l hl=>reach_ints (q2 l hl)⟩
theorem fit_book(h:Fit Tryz.prog Reach (n+5) 28 vs): ∃b:WBook,vs=vB b∧ShortB b:=by
 rw[Fit,Tryz.underlying28]at h
 simp only[FitF]at h
 obtain⟨_,_,rfl,h0,_,_,rfl,h1,_,_,rfl,h2,_,_,rfl,h3,rfl⟩:=h
 obtain⟨t,rfl,q1⟩:=fit_trap h0
 obtain⟨a,rfl⟩:=fit_int h1
 obtain⟨c,rfl⟩:=fit_int h2
 obtain⟨d,rfl,q3⟩:=fit_ints h3
 exact⟨⟨t,a,c,d⟩,rfl,q1,reach_ints q3⟩
theorem fit_other(h:Fit Tryz.prog Reach (n+2) 69 vs): ∃a b c:Int,vs=[i64 a,i64 b,i64 c]:=by
 rw[Fit,Tryz.underlying69]at h
 simp only[FitF]at h
 obtain⟨_,_,rfl,h0,_,_,rfl,h1,_,_,rfl,h2,rfl⟩:=h
 obtain⟨a,rfl⟩:=fit_int h0
 obtain⟨b,rfl⟩:=fit_int h1
 obtain⟨c,rfl⟩:=fit_int h2
 exact⟨a,b,c,rfl⟩
end Go.Proofs.YthghcainodgnkaaGreat

/-
  Watch, laws: the examples, works (not built yet).
-/
namespace Go.Proofs.YthghcainodgnkaaGreat
open Go.Ab
theorem e_word11(a b c d:Int)(lab s):den T 117 [i64 a,i64 b,i64 c,i64 d] lab s=some (.agg [i64 a,i64 b,i64 c,i64 d],s):=by
 rw[den_fn t117 _ _ _ rfl]
 simp only[b117]
 simp (maxSteps:=1000000) (disch:=first|omega|assumption|decide +kernel|(simp;done)|(simp;omega)|fail) []
theorem exB_copy:CopyB exB:=hugeK_copy (by decide)
theorem exC_copy:CopyB exC:=hugeK_copy (by decide)
theorem exB_ok:bookB exB=true:=by decide +kernel
theorem exC_ok:bookB exC=true:=by decide +kernel
theorem exB_mid:Mid exB.trap:=trapB_mid (bookB_trap exB_ok)
set_option maxHeartbeats 2000000 in
theorem e_Example11(lab s):den T 73 [] lab s=some (.tup [.agg (vB exB), .agg (vB exC)],s):=by
 have hC:=fun lab s=>e_Copy11 exB exB_copy lab s
 simp only[vB,exB,exC,es,List.map_cons,List.map_nil,cInts_eq,cInts,cInt,cWord]at hC⊢
 rw[den_fn t73 _ _ _ rfl]
 simp only[b73]
 simp (maxSteps:=6000000) (disch:=first|omega|assumption|decide +kernel|(simp;done)|(simp;omega)|fail) [run_drawnK,orSlow_none,e_word11,hC]
set_option maxHeartbeats 4000000 in
@[simp] theorem e_works11(lab s):den T 17 [] lab s=some (.bool true,s):=by
 have o1:open11 exB true=0:=by unfold open11 ask11;rw[exB_ok];simp[ex_someB]
 have h1:=fun lab s=>e_StoriesW exC exC_copy lab s
 have h2:=fun lab s=>e_LeastW exB exB_copy lab s
 have h3:=fun lab s=>e_MustW exB exB_copy lab s
 have h4:=fun lab s=>e_LiesW exB exB_copy 2 lab s
 have h5:=fun lab s=>e_FishW exB exB_copy exB_mid 1 0 lab s
 have h6:=fun lab s=>e_BlameW exB exB_copy lab s
 have h7:=fun lab s=>e_Example11 lab s
 have e4:liesV11 exB 2=(2,0):=by
  have:wiB 2 0 ((exB.trap.words.length:Int)-1)=true:=by decide
  unfold liesV11;rw[this,o1,if_pos rfl,ex_liesB]
 have e5:fishV11 exB 1 0=(⟨2,9⟩,0):=by
  have:placeB exB.trap 1 0=true:=by decide
  unfold fishV11;rw[this,o1,if_pos rfl]
  exact congrArg (fun x=>(x,(0:Int))) ex_spanB
 rw[exC_ok,if_pos rfl,if_pos rfl,ex_storiesC]at h1
 rw[o1,if_pos rfl,ex_storiesB]at h2
 rw[o1,if_pos rfl,ex_mustB]at h3
 rw[o1,if_pos rfl,ex_blameB]at h6
 rw[e4]at h4
 rw[e5]at h5
 have s1: ∀(F:Ab.Loc) lab,den T 34 [.sl .no 1 (es cInt [0,3]), .sl .no 1 [[i64 0],[i64 3]]] lab (F::s)=some (.bool true,F::s):=fun F lab=>(e_Same2 [0,3] [0,3] (by decide) (by decide) lab (F::s)).trans rfl
 have s2: ∀(F:Ab.Loc) lab,den T 34 [.sl .no 1 (es cInt [3]), .sl .no 1 [[i64 3]]] lab (F::s)=some (.bool true,F::s):=fun F lab=>(e_Same2 [3] [3] (by decide) (by decide) lab (F::s)).trans rfl
 generalize exB=B at*
 generalize exC=C at*
 generalize ([0,3]:List Int)=L03 at*
 generalize ([3]:List Int)=L3 at*
 rw[den_fn t17 _ _ _ rfl]
 simp only[b17]
 simp (maxSteps:=6000000) (disch:=first|omega|assumption|decide +kernel|(simp;done)|(simp;omega)|fail) [run_drawnK,orSlow_none,h1,h2,h3,h4,h5,h6,h7,s1,s2,-e_Same2,eqCells]
end Go.Proofs.YthghcainodgnkaaGreat

/-
  Watch, laws: small helpers (not built yet).
-/
namespace Go.Proofs.YthghcainodgnkaaGreat
open Go.Ab
theorem e_inside(x y:CSp)(lab s):den T 109 [.agg [i64 x.lo,i64 x.hi], .agg [i64 y.lo,i64 y.hi]] lab s=some (.bool (inS x y),s):=by
 obtain⟨x1,x2⟩:=x
 obtain⟨y1,y2⟩:=y
 unfold inS
 rw[den_fn t109 _ _ _ rfl]
 simp only[b109]
 by_cases h1:y1≤x1
 ·by_cases h2:x1≤x2
  ·by_cases h3:x2≤y2<;>simp (maxSteps:=1000000) (disch:=first|omega|assumption|decide +kernel|(simp;done)|(simp;omega)|fail) [h1,h2,h3]
  ·simp (maxSteps:=1000000) (disch:=first|omega|assumption|decide +kernel|(simp;done)|(simp;omega)|fail) [h1,h2]
 ·simp (maxSteps:=1000000) (disch:=first|omega|assumption|decide +kernel|(simp;done)|(simp;omega)|fail) [h1]
theorem stories_32 {b:WBook}(h:bookB b=true):(storiesL b).length≤32:=by
 have hT:=(bookB_ok h).t6
 have h1:(storiesL b).length≤(allL b.T).length:=List.length_filter_le ..
 have h2: ∀T,T<6→(allL T).length≤32:=by decide +kernel
 exact Nat.le_trans h1 (h2 _ hT)
theorem e_stories11(b:WBook)(hB:bookB b=true)(hc:CopyB b)(lab s):den T 55 [.agg (vB b)] lab s=some (i64 ((storiesL b).length:Nat),s):=by
 have h1:=fun lab s=>e_StoriesW b hc lab s
 rw[hB,if_pos rfl,if_pos rfl]at h1
 have h2:=stories_32 hB
 generalize (storiesL b).length=n at*
 have n1: ¬(n:Int)<0:=by omega
 have n2: ¬(32:Int)<n:=by omega
 rw[den_fn t55 _ _ _ rfl]
 simp only[b55]
 simp (maxSteps:=1000000) (disch:=first|omega|assumption|decide +kernel|(simp;done)|(simp;omega)|fail) [h1,n1,n2]
def falseN(b:WBook):Int:=if storiesL b=[]then 100 else(blameL b).length
theorem blame_len {b:WBook}(hB:bookB b=true)(hne:storiesL b≠[]):(blameL b).length≤b.trap.words.length∧b.trap.words.length≤8:=by
 have hw8:b.trap.words.length≤8:=by
  have:=bookB_trap hB
  simp only[trapB,Bool.and_eq_true,decide_eq_true_eq]at this
  exact this.2.2.2.1
 obtain⟨h1,h2⟩:=allL_mem.1 (blame_spec (bookB_ok hB) hne).1
 have:=pair_lenL (lo:=0) h1 h2
 exact⟨by omega,hw8⟩
theorem open11_B {b:WBook}(h:bookB b=true) {is:Bool}:open11 b is=if is=true then(if storiesL b=[]then 3 else 0)else 1:=by
 unfold open11 ask11
 rw[h]
 cases is<;>simp
theorem e_lies11(b:WBook)(hB:bookB b=true)(hc:CopyB b)(lab s):den T 19 [.agg (vB b)] lab s=some (.tup [i64 (falseN b), .bool true],s):=by
 have h1:=fun lab s=>e_FalseW b hc lab s
 rw[open11_B hB,if_pos rfl]at h1
 unfold falseN
 by_cases h:storiesL b=[]
 ·rw[if_pos h]at h1⊢
  rw[den_fn t19 _ _ _ rfl]
  simp only[b19]
  simp (maxSteps:=1000000) (disch:=first|omega|assumption|decide +kernel|(simp;done)|(simp;omega)|fail) [run_drawnK,orSlow_none,h1]
 ·obtain⟨b1,b2⟩:=blame_len hB h
  rw[if_neg h]at h1⊢
  rw[if_pos rfl]at h1
  generalize (blameL b).length=n at*
  have n1:(n:Int)≤b.trap.words.length:=by omega
  rw[den_fn t19 _ _ _ rfl]
  simp only[b19]
  simp (maxSteps:=1000000) (disch:=first|omega|assumption|decide +kernel|(simp;done)|(simp;omega)|fail) [run_drawnK,orSlow_none,h1,n1]
end Go.Proofs.YthghcainodgnkaaGreat

/-
  Watch: WatchGood (not built yet).
-/
namespace Go.Proofs.YthghcainodgnkaaGreat
open Go.Ab
end Go.Proofs.YthghcainodgnkaaGreat

/-
  Watch, laws: books that are not valid, of any numbers (not built yet).
-/
namespace Go.Proofs.YthghcainodgnkaaGreat
open Go.Ab
section
variable (b : WBook) (hc : CopyB b) (hB : bookB b = false)
include hc hB
end
end Go.Proofs.YthghcainodgnkaaGreat

/-
  Watch: WatchDrunk, WatchLies, WatchFish (not built yet).
-/
namespace Go.Proofs.YthghcainodgnkaaGreat
open Go.Ab
theorem must_len {b:WBook}:(if open11 b true=0 then mustL b else []).length<1000000:=by
 split
 ·rename_i h
  obtain⟨hB,_,_⟩:=open11_ok h
  have:=(bookB_ok hB).t6
  unfold mustL
  rw[List.length_map]
  have h2:=List.length_filter_le (fun(n:Nat)=>(storiesL b).all fun l=>l.contains (n:Int)) (List.range b.T)
  rw[List.length_range]at h2
  omega
 ·simp
end Go.Proofs.YthghcainodgnkaaGreat

/-
  Watch: WatchSober (not built yet).
-/
namespace Go.Proofs.YthghcainodgnkaaGreat
open Go.Ab
end Go.Proofs.YthghcainodgnkaaGreat

/-
  Watch: WatchBlame.
-/
namespace Go.Proofs.YthghcainodgnkaaGreat
open Go.Ab
end Go.Proofs.YthghcainodgnkaaGreat

/-
  Watch: WatchWithout.
-/
namespace Go.Proofs.YthghcainodgnkaaGreat
open Go.Ab
theorem good_iff {b:WBook} {l:List Int}:(bookB b&&(canR b l&&isOneB (trapOf b l)))=true↔bookB b=true∧rising l 0 (b.trap.times-1)=true∧storyB b l=true:=by
 unfold canR storyB
 simp only[Bool.and_eq_true,and_assoc]
end Go.Proofs.YthghcainodgnkaaGreat

/-
  Watch: no span is wider.
-/
namespace Go.Proofs.YthghcainodgnkaaGreat
open Go.Ab
theorem fish_in {b:WBook}(hB:bookB b=true)(hne:storiesL b≠[]) {i c:Nat}(hi:i<b.T)(hc:c<b.trap.C):fishV11 b i c=(spanW b i c i (c+1),0):=by
 have e1:b.T=b.trap.times.toNat:=rfl
 have e2:b.trap.C=b.trap.chambers.toNat:=rfl
 have hp:placeB b.trap i c=true:=by
  unfold placeB
  rw[wiB_iff.2 (by omega),wiB_iff.2 (by omega)];rfl
 unfold fishV11
 rw[open11_B hB,hp,if_pos rfl,if_neg hne,if_pos rfl]
 simp only[Int.toNat_natCast]
theorem came_in {b:WBook}(hB:bookB b=true)(hne:storiesL b≠[]) {i:Nat}(hi:i<b.T):cameV11 b 0 i=(spanW b i 0 0 0,0):=by
 have e1:b.T=b.trap.times.toNat:=rfl
 have hp:spanIs b 0 i=true:=by
  unfold spanIs
  rw[wiB_iff.2 (by omega),wiB_iff.2 (by omega),decide_eq_true (by omega)];rfl
 unfold cameV11
 rw[open11_B hB,hp,if_pos rfl,if_neg hne,if_pos rfl]
 simp only[Int.toNat_natCast,Int.toNat_zero]
set_option maxHeartbeats 4000000 in
theorem e_wider_l1(b o:WBook)(hB:bookB b=true)(hO:bookB o=true)(hc:CopyB b)(hco:CopyB o)(hne:storiesL b≠[])(w:Wide b o)(i:Nat)(hi0:i<b.T)(s:Stk):
 Run T b56l1 [(2, .ptr s.length 32 0),(3, .ptr s.length 48 0),(5,i64 (i:Nat)),(6,i64 0)] ([(32, .cell (vB b)),(48, .cell (vB o))]::s)=some (.exit 2,[(2, .ptr s.length 32 0),(3, .ptr s.length 48 0),(5,i64 (i:Nat)),(6,i64 ((List.range b.trap.C).length:Nat)),(26, .bool false)],[(32, .cell (vB b)),(48, .cell (vB o))]::s):=by
 have key:=loop_fold (T:=T) (live:=[2,3,5,6]) (keep:=[32,48]) (b:=d56l1) (List.range b.trap.C) (fun _ _=>True) (fun _ _=>()) (fun k (a:Unit)=>[(2, .ptr s.length 32 0),(3, .ptr s.length 48 0),(5,i64 (i:Nat)),(6,i64 (k:Nat))]) (fun k (a:Unit)=>[(32, .cell (vB b)),(48, .cell (vB o))]::s) (fun(a:Unit)=>(.exit 2,[(2, .ptr s.length 32 0),(3, .ptr s.length 48 0),(5,i64 (i:Nat)),(6,i64 ((List.range b.trap.C).length:Nat)),(26, .bool false)],[(32, .cell (vB b)),(48, .cell (vB o))]::s)) (by simp) ?_ ?_ ?_ () (by simp) [(2, .ptr s.length 32 0),(3, .ptr s.length 48 0),(5,i64 (i:Nat)),(6,i64 0)] ([(32, .cell (vB b)),(48, .cell (vB o))]::s) (by simp) (by simp)
 ·exact key
 ·intro k a hk hi
  try simp only[List.length_range]at hk
  try simp only[List.getElem_range]
  have hok:=bookB_ok hB
  have hoo:=bookB_ok hO
  have hneo:storiesL o≠[]:=by
   obtain⟨l,hl⟩:=List.exists_mem_of_ne_nil _ hne
   exact List.ne_nil_of_mem (w.story l hl)
  have e1:b.T=b.trap.times.toNat:=rfl
  have e2:b.trap.C=b.trap.chambers.toNat:=rfl
  have e3:o.T=b.T:=by show o.trap.times.toNat=b.trap.times.toNat;rw[w.t]
  have e4:o.trap.C=b.trap.C:=by show o.trap.chambers.toNat=b.trap.chambers.toNat;rw[w.c]
  have hcc:=hok.trap.cc
  have hk2:(k:Int)<b.trap.chambers:=by omega
  have hk9:k<1000:=by omega
  have h1:=fun lab s=>e_FishW b hc (trapB_mid (bookB_trap hB)) i k lab s
  have h2:=fun lab s=>e_FishW o hco (trapB_mid (bookB_trap hO)) i k lab s
  rw[fish_in hB hne hi0 hk]at h1
  rw[fish_in hO hneo (by omega) (by omega)]at h2
  have h3:=fun lab s=>e_inside (spanW b i k i (k+1)) (spanW o i k i (k+1)) lab s
  rw[w.span hok hoo hne hi0 (Nat.le_of_lt hk) hi0 hk]at h3
  clear e1 e2 e3 e4 hcc
  generalize spanW b i k i (k+1)=x at*
  generalize spanW o i k i (k+1)=y at*
  simp (maxSteps:=1000000) (disch:=first|omega|assumption|decide +kernel|(simp;done)|(simp;omega)|fail) [run_drawnK,orSlow_none,hk2,h1,h2,h3,wk k (by omega)]
 ·intro k a hk hi
  try simp only[List.length_range]at hk
  try simp only[List.getElem_range]
  try simp
 ·intro a hi
  have hcc:=(bookB_ok hB).trap.cc
  have e2:b.trap.C=b.trap.chambers.toNat:=rfl
  have hz:((b.trap.C:Nat):Int)=b.trap.chambers:=by omega
  simp only[List.length_range,hz]
  simp
set_option maxHeartbeats 4000000 in
theorem e_wider_l0(b o:WBook)(hB:bookB b=true)(hO:bookB o=true)(hc:CopyB b)(hco:CopyB o)(hne:storiesL b≠[])(w:Wide b o)(s:Stk):
 Run T b56l0 [(2, .ptr s.length 32 0),(3, .ptr s.length 48 0),(5,i64 0)] ([(32, .cell (vB b)),(48, .cell (vB o))]::s)=some (.exit 0,[(2, .ptr s.length 32 0),(3, .ptr s.length 48 0),(5,i64 ((List.range b.T).length:Nat)),(19, .bool false)],[(32, .cell (vB b)),(48, .cell (vB o))]::s):=by
 have key:=loop_fold (T:=T) (live:=[2,3,5]) (keep:=[32,48]) (b:=d56l0) (List.range b.T) (fun _ _=>True) (fun _ _=>()) (fun k (a:Unit)=>[(2, .ptr s.length 32 0),(3, .ptr s.length 48 0),(5,i64 (k:Nat))]) (fun k (a:Unit)=>[(32, .cell (vB b)),(48, .cell (vB o))]::s) (fun(a:Unit)=>(.exit 0,[(2, .ptr s.length 32 0),(3, .ptr s.length 48 0),(5,i64 ((List.range b.T).length:Nat)),(19, .bool false)],[(32, .cell (vB b)),(48, .cell (vB o))]::s)) (by simp) ?_ ?_ ?_ () (by simp) [(2, .ptr s.length 32 0),(3, .ptr s.length 48 0),(5,i64 0)] ([(32, .cell (vB b)),(48, .cell (vB o))]::s) (by simp) (by simp)
 ·exact key
 ·intro k a hk hi
  try simp only[List.length_range]at hk
  try simp only[List.getElem_range]
  have hok:=bookB_ok hB
  have hoo:=bookB_ok hO
  have hneo:storiesL o≠[]:=by
   obtain⟨l,hl⟩:=List.exists_mem_of_ne_nil _ hne
   exact List.ne_nil_of_mem (w.story l hl)
  have e1:b.T=b.trap.times.toNat:=rfl
  have e3:o.T=b.T:=by show o.trap.times.toNat=b.trap.times.toNat;rw[w.t]
  have htt:=hok.trap.tt
  have hk2:(k:Int)<b.trap.times:=by omega
  have hk9:k<1000:=by omega
  have h0:=e_wider_l1 b o hB hO hc hco hne w k hk s
  have h1:=fun lab s=>e_CameW b hc (trapB_mid (bookB_trap hB)) 0 k lab s
  have h2:=fun lab s=>e_CameW o hco (trapB_mid (bookB_trap hO)) 0 k lab s
  rw[came_in hB hne hk]at h1
  rw[came_in hO hneo (by omega)]at h2
  have h3:=fun lab s=>e_inside (spanW b k 0 0 0) (spanW o k 0 0 0) lab s
  rw[w.span hok hoo hne hk (Nat.zero_le _) hok.pos (Nat.zero_le _)]at h3
  clear e1 e3 htt
  generalize spanW b k 0 0 0=x at*
  generalize spanW o k 0 0 0=y at*
  generalize b.trap.C=C at*
  simp (maxSteps:=1000000) (disch:=first|omega|assumption|decide +kernel|(simp;done)|(simp;omega)|fail) [run_drawnK,orSlow_none,hk2,h0,h1,h2,h3,wk k (by omega)]
 ·intro k a hk hi
  try simp only[List.length_range]at hk
  try simp only[List.getElem_range]
  try simp
 ·intro a hi
  have htt:=(bookB_ok hB).trap.tt
  have e2:b.T=b.trap.times.toNat:=rfl
  have hz:((b.T:Nat):Int)=b.trap.times:=by omega
  simp only[List.length_range,hz]
  simp
theorem e_wider(b o:WBook)(hB:bookB b=true)(hO:bookB o=true)(hc:CopyB b)(hco:CopyB o)(hne:storiesL b≠[])(w:Wide b o)(lab s):den T 56 [.agg (vB b), .agg (vB o)] lab s=some (.bool true,s):=by
 have h:=e_wider_l0 b o hB hO hc hco hne w s
 generalize b.T=n at*
 rw[den_fn t56 _ _ _ rfl]
 simp only[b56]
 simp (maxSteps:=1000000) (disch:=first|omega|assumption|decide +kernel|(simp;done)|(simp;omega)|fail) [h]
end Go.Proofs.YthghcainodgnkaaGreat

/-
  Watch: WatchMore.
-/
namespace Go.Proofs.YthghcainodgnkaaGreat
open Go.Ab
theorem more_books {b:WBook} {x y:Int} {so:List Int}(hx:b.drunk≤x)(hy:b.run≤y)(hs: ∀n,n∈so→n∈b.sober):More b {b with drunk:=x,run:=y,sober:=so}:=⟨rfl,hx,hy,hs⟩
set_option maxHeartbeats 32000000 in
theorem e_WatchMore2(b:WBook)(x y z:Int)(k:Nat)(hk:k≤b.sober.length)(hc:CopyB b)(hB:bookB b=true)(hx:b.drunk≤x)(hy:b.run≤y)(l:List Int)(hl:l.length≤40):
 let o:WBook:= {b with drunk:=x,run:=y,sober:=b.sober.take k}
 CopyB o∧ShortB o∧(readyK o=true→bookB o=true∧(storiesL b).length≤(storiesL o).length∧((bookB b&&(canR b l&&isOneB (trapOf b l)))=true→(bookB o&&(canR o l&&isOneB (trapOf o l)))=true)∧
  (storiesL b≠[]→storiesL o≠[]∧(blameL o).length≤(blameL b).length∧(mustL o).length≤(mustL b).length∧(∀n,n∈mustL o→n∈mustL b)∧Wide b o)):=by
 intro o
 have hm:More b o:=more_books hx hy fun n hn=>List.mem_of_mem_take hn
 have hco:CopyB o:=⟨hc.trap,by have:=hc.sober;show(b.sober.take k).length<_;rw[List.length_take];omega⟩
 refine⟨hco,⟨hco.trap.short,by have:=hco.sober;omega⟩,fun hr=> ?_⟩
 obtain⟨_,hO,_⟩:=readyK_ok hr
 have hok:=bookB_ok hB
 have hoo:=bookB_ok hO
 refine⟨hO,stories_sub hm.t fun l h=>hm.story h,fun h=> ?_,fun hne=> ?_⟩
 ·rw[good_iff]at h⊢
  exact⟨hO,h.2.1,hm.story h.2.2⟩
 ·have hw:=hm.wide
  have hneo:storiesL o≠[]:=by
   obtain⟨l,hl⟩:=List.exists_mem_of_ne_nil _ hne
   exact List.ne_nil_of_mem (hw.story l hl)
  obtain⟨m1,m2⟩:=must_sub hm.t hw.story
  exact⟨hneo,hm.false hok hoo hne hneo,m1,m2,hw⟩
end Go.Proofs.YthghcainodgnkaaGreat

/-
  Watch: WatchMore, the loop.
-/
namespace Go.Proofs.YthghcainodgnkaaGreat
open Go.Ab
set_option maxHeartbeats 4000000 in
theorem e_WatchMore_lg(fr:Ab.Loc)(k0 k1:List Int)(hk0:k0.length<1000000)(hk1:k1.length<1000000)(hin: ∀n,n∈k1→n∈k0)(s:Stk)(hfr:fr.gc s.length [48,64,112]=fr)(e:Env)(st:Stk)
 (he:gcEnv [3,7,14,15,20] [48,64,112] e st=[(3, .ptr s.length 48 0),(7, .ptr s.length 112 0),(14, .sl .no 1 (es cInt k0)),(15, .sl .no 1 (es cInt k1)),(20,i64 0)])
 (hse:gcStk [48,64,112] st=fr::s):
 Run T b11l0 e st=some (.exit 0,[(3, .ptr s.length 48 0),(7, .ptr s.length 112 0),(14, .sl .no 1 (es cInt k0)),(15, .sl .no 1 (es cInt k1)),(20,i64 (k1.length:Nat)),(169, .bool false)],fr::s):=by
 have key:=loop_fold (T:=T) (live:=[3,7,14,15,20]) (keep:=[48,64,112]) (b:=d11l0) (k1) (fun _ _=>True) (fun _ _=>()) (fun k (a:Unit)=>[(3, .ptr s.length 48 0),(7, .ptr s.length 112 0),(14, .sl .no 1 (es cInt k0)),(15, .sl .no 1 (es cInt k1)),(20,i64 (k:Nat))]) (fun k (a:Unit)=>fr::s) (fun(a:Unit)=>(.exit 0,[(3, .ptr s.length 48 0),(7, .ptr s.length 112 0),(14, .sl .no 1 (es cInt k0)),(15, .sl .no 1 (es cInt k1)),(20,i64 (k1.length:Nat)),(169, .bool false)],fr::s)) (by simp) ?_ ?_ ?_ () (by simp) e st he hse
 ·exact key
 ·intro k a hk hi
  have hfr:=hfr
  simp at hfr
  have hk2:(k:Int)<k1.length:=by omega
  have i1:=fun lab s=>e_In k0 k1[k] (by omega) lab s
  rw[in_contains,List.contains_eq_mem,decide_eq_true (hin _ (List.getElem_mem hk))]at i1
  generalize hx:k1[k]=u at*
  simp (maxSteps:=1000000) (disch:=first|omega|assumption|decide +kernel|(simp;done)|(simp;omega)|fail) [run_drawnK,orSlow_none,hfr,hk,hk2,hx,i1,-e_In,wk k (by omega)]
 ·intro k a hk hi
  trivial
 ·intro a hi
  simp
end Go.Proofs.YthghcainodgnkaaGreat

/-
  Watch: WatchMore, a case.
-/
namespace Go.Proofs.YthghcainodgnkaaGreat
open Go.Ab
set_option maxHeartbeats 64000000 in
theorem e_WatchMore_0(b:WBook)(x y:Int)(z K:Nat)(S l:List Int)(c1:readyK b=true)(c2:wiB (z:Int) 0 b.sober.length=true)(c3: ¬x<b.drunk)(c4: ¬y<b.run)(c5: ¬40<l.length)(hK:b.sober.length-z=K)(hS:b.sober.take K=S)(hS0:S=[])(hl0:l=[])(lab s):den T 11 [.agg (vB b), .agg [i64 x,i64 y,i64 z], .sl .no 1 (es cInt l)] lab s=some (.bool true,s):=by
 obtain⟨hc,hB,_⟩:=readyK_ok c1
 have h1:=fun lab s=>e_ready b ⟨hc.trap.short,by have:=hc.sober;omega⟩ lab s
 have c5': ¬(40:Int)<l.length:=by omega
 have hso:=hc.sober
 have hz:=wiB_iff.1 c2
 obtain⟨hco,hso2,hr⟩:=e_WatchMore2 b x y z (b.sober.length-z) (by omega) hc hB (by omega) (by omega) l (by omega)
 have w1:IntKind.i64.wrap ((b.sober.length:Int)-z)=(K:Int):=by rw[wi _ (by omega) (by omega)];omega
 rw[hK,hS]at hco hso2 hr
 have hk2:(K:Int)≤b.sober.length:=by omega
 have hk3:(0:Int)≤(K:Int):=by omega
 have hk:K≤b.sober.length:=by omega
 have htl:S.length<1000000:=by rw[←hS,List.length_take];omega
 have h2:=fun lab s=>e_Copy11 b hc lab s
 have h3:=fun lab s=>e_ready {b with drunk:=x,run:=y,sober:=S} hso2 lab s
 cases c6:readyK {b with drunk:=x,run:=y,sober:=S}
 ·rw[c6]at h3
  dsimp only[vB]at h3
  clear hr hso2 hco
  rw[den_fn t11 _ _ _ rfl]
  simp only[b11]
  subst hS0
  have hS0:=trivial
  simp only[es_nil]at h3
  simp (maxSteps:=6000000) (disch:=first|omega|assumption|decide +kernel|(simp;done)|(simp;omega)|fail) [run_drawnK,orSlow_none,appD_full_nil,h1,c1,c2,c3,c4,c5,c5',h2,h3,w1,hk,hk2,hk3,hS]
 obtain⟨hO,q1,q2,q3⟩:=hr c6
 rw[c6]at h3
 have h4:=fun lab s=>e_stories11 b hB hc lab s
 have h5:=fun lab s=>e_stories11 {b with drunk:=x,run:=y,sober:=S} hO hco lab s
 have h6:=fun lab s=>e_Good b hc l (by omega) lab s
 have h7:=fun lab s=>e_Good {b with drunk:=x,run:=y,sober:=S} hco l (by omega) lab s
 have h8:=fun lab s=>e_MustW b hc lab s
 have h9:=fun lab s=>e_MustW {b with drunk:=x,run:=y,sober:=S} hco lab s
 have h10:=fun lab s=>e_lies11 b hB hc lab s
 have h11:=fun lab s=>e_lies11 {b with drunk:=x,run:=y,sober:=S} hO hco lab s
 rw[hB,if_pos rfl]at h6
 rw[hO,if_pos rfl]at h7
 rw[hB,hO]at q2
 rw[open11_B hB,if_pos rfl]at h8
 rw[open11_B hO,if_pos rfl]at h9
 unfold falseN at h10 h11
 simp only[Bool.true_and]at h6 h7 q2
 have n1: ¬((storiesL b).length:Int)<0:=by omega
 have n2: ¬((storiesL {b with drunk:=x,run:=y,sober:=S}).length:Int)<(storiesL b).length:=by omega
 have m1:=must_len (b:=b)
 have m2:=must_len (b:= {b with drunk:=x,run:=y,sober:=S})
 rw[open11_B hB,if_pos rfl]at m1
 rw[open11_B hO,if_pos rfl]at m2
 have h13:=fun hne w lab s=>e_wider b {b with drunk:=x,run:=y,sober:=S} hB hO hc hco hne w lab s
 have hll:=fun k0 k1 a1 a2 a3=>e_WatchMore_lg [(48, .cell (vB b)),(64, .cell [i64 x,i64 y,i64 z]),(112, .cell [i64 b.trap.chambers,i64 b.trap.times, .sl .no 1 (es cInts b.trap.opn), .sl .no 4 (es cWord b.trap.words),i64 x,i64 y, .sl .full 1 []])] k0 k1 a1 a2 a3 s (by simp)
 generalize (canR {b with drunk:=x,run:=y,sober:=S} l&&isOneB (trapOf {b with drunk:=x,run:=y,sober:=S} l))=G2 at*
 generalize (canR b l&&isOneB (trapOf b l))=G1 at*
 clear hr hso2 hco
 by_cases hne:storiesL b=[]
 ·rw[hne]at h4 n2
  generalize storiesL {b with drunk:=x,run:=y,sober:=S}=L2 at*
  dsimp only[vB,List.length_nil]at h3 h4 h5 h7 n2
  clear h8 h9 h10 h11 h13 hll q3 m1 m2 n1
  simp only[Int.natCast_zero]at h4 n2
  rw[den_fn t11 _ _ _ rfl]
  simp only[b11]
  subst hS0
  have hS0:=trivial
  subst hl0
  have hl0:=trivial
  simp only[es_nil]at h3 h5 h6 h7
  cases G1<;>(try rw[q2 rfl]at h7)<;>(clear q2)
  all_goals simp (maxSteps:=6000000) (disch:=first|omega|assumption|decide +kernel|(simp;done)|(simp;omega)|fail) [run_drawnK,orSlow_none,appD_full,appD_full_nil,h1,c1,c2,c3,c4,c5,c5',h2,h3,h4,h5,h6,h7,w1,hk,hk2,hk3,hS,n2]
 ·obtain⟨r1,r2,r3,r4,r5⟩:=q3 hne
  have h13:=h13 hne r5
  rw[if_neg hne]at h8 h10 m1
  rw[if_neg r1]at h9 h11 m2
  rw[if_pos rfl]at h8 h9 m1 m2
  have hll:=hll (mustL b) (mustL {b with drunk:=x,run:=y,sober:=S}) m1 m2 r4
  have n3: ¬((storiesL b).length:Int)=0:=by have:=List.length_pos_iff.2 hne;omega
  have n4: ¬((blameL b).length:Int)<(blameL {b with drunk:=x,run:=y,sober:=S}).length:=by omega
  have n5: ¬((mustL b).length:Int)<(mustL {b with drunk:=x,run:=y,sober:=S}).length:=by omega
  clear q1 q3 r2 r3 r4 r5 m1 m2 r1
  generalize (storiesL {b with drunk:=x,run:=y,sober:=S}).length=L2 at*
  generalize mustL {b with drunk:=x,run:=y,sober:=S}=M2 at*
  generalize (blameL {b with drunk:=x,run:=y,sober:=S}).length=B2 at*
  generalize mustL b=M1 at*
  generalize (blameL b).length=B1 at*
  generalize (storiesL b).length=L1 at*
  dsimp only[vB]at h3 h5 h7 h9 h11 h13 hll
  rw[den_fn t11 _ _ _ rfl]
  simp only[b11]
  subst hS0
  have hS0:=trivial
  subst hl0
  have hl0:=trivial
  simp only[es_nil]at h3 h5 h6 h7 h9 h11 h13 hll
  cases G1<;>(try rw[q2 rfl]at h7)<;>(clear q2)
  all_goals simp (maxSteps:=6000000) (disch:=first|omega|assumption|decide +kernel|(simp;done)|(simp;omega)|fail) [run_drawnK,orSlow_none,appD_full,appD_full_nil,h1,c1,c2,c3,c4,c5,c5',h2,h3,h4,h5,h6,h7,h8,h9,h10,h11,h13,hll,w1,hk,hk2,hk3,hS,n1,n2,n3,n4,n5]
end Go.Proofs.YthghcainodgnkaaGreat

/-
  Watch: WatchMore, a case.
-/
namespace Go.Proofs.YthghcainodgnkaaGreat
open Go.Ab
set_option maxHeartbeats 64000000 in
theorem e_WatchMore_1(b:WBook)(x y:Int)(z K:Nat)(S l:List Int)(c1:readyK b=true)(c2:wiB (z:Int) 0 b.sober.length=true)(c3: ¬x<b.drunk)(c4: ¬y<b.run)(c5: ¬40<l.length)(hK:b.sober.length-z=K)(hS:b.sober.take K=S)(hS0:S=[])(hl0:es cInt l≠[])(lab s):den T 11 [.agg (vB b), .agg [i64 x,i64 y,i64 z], .sl .no 1 (es cInt l)] lab s=some (.bool true,s):=by
 obtain⟨hc,hB,_⟩:=readyK_ok c1
 have h1:=fun lab s=>e_ready b ⟨hc.trap.short,by have:=hc.sober;omega⟩ lab s
 have c5': ¬(40:Int)<l.length:=by omega
 have hso:=hc.sober
 have hz:=wiB_iff.1 c2
 obtain⟨hco,hso2,hr⟩:=e_WatchMore2 b x y z (b.sober.length-z) (by omega) hc hB (by omega) (by omega) l (by omega)
 have w1:IntKind.i64.wrap ((b.sober.length:Int)-z)=(K:Int):=by rw[wi _ (by omega) (by omega)];omega
 rw[hK,hS]at hco hso2 hr
 have hk2:(K:Int)≤b.sober.length:=by omega
 have hk3:(0:Int)≤(K:Int):=by omega
 have hk:K≤b.sober.length:=by omega
 have htl:S.length<1000000:=by rw[←hS,List.length_take];omega
 have h2:=fun lab s=>e_Copy11 b hc lab s
 have h3:=fun lab s=>e_ready {b with drunk:=x,run:=y,sober:=S} hso2 lab s
 cases c6:readyK {b with drunk:=x,run:=y,sober:=S}
 ·rw[c6]at h3
  dsimp only[vB]at h3
  clear hr hso2 hco
  rw[den_fn t11 _ _ _ rfl]
  simp only[b11]
  subst hS0
  have hS0:=trivial
  simp only[es_nil]at h3
  simp (maxSteps:=6000000) (disch:=first|omega|assumption|decide +kernel|(simp;done)|(simp;omega)|fail) [run_drawnK,orSlow_none,appD_full_nil,h1,c1,c2,c3,c4,c5,c5',h2,h3,w1,hk,hk2,hk3,hS]
 obtain⟨hO,q1,q2,q3⟩:=hr c6
 rw[c6]at h3
 have h4:=fun lab s=>e_stories11 b hB hc lab s
 have h5:=fun lab s=>e_stories11 {b with drunk:=x,run:=y,sober:=S} hO hco lab s
 have h6:=fun lab s=>e_Good b hc l (by omega) lab s
 have h7:=fun lab s=>e_Good {b with drunk:=x,run:=y,sober:=S} hco l (by omega) lab s
 have h8:=fun lab s=>e_MustW b hc lab s
 have h9:=fun lab s=>e_MustW {b with drunk:=x,run:=y,sober:=S} hco lab s
 have h10:=fun lab s=>e_lies11 b hB hc lab s
 have h11:=fun lab s=>e_lies11 {b with drunk:=x,run:=y,sober:=S} hO hco lab s
 rw[hB,if_pos rfl]at h6
 rw[hO,if_pos rfl]at h7
 rw[hB,hO]at q2
 rw[open11_B hB,if_pos rfl]at h8
 rw[open11_B hO,if_pos rfl]at h9
 unfold falseN at h10 h11
 simp only[Bool.true_and]at h6 h7 q2
 have n1: ¬((storiesL b).length:Int)<0:=by omega
 have n2: ¬((storiesL {b with drunk:=x,run:=y,sober:=S}).length:Int)<(storiesL b).length:=by omega
 have m1:=must_len (b:=b)
 have m2:=must_len (b:= {b with drunk:=x,run:=y,sober:=S})
 rw[open11_B hB,if_pos rfl]at m1
 rw[open11_B hO,if_pos rfl]at m2
 have h13:=fun hne w lab s=>e_wider b {b with drunk:=x,run:=y,sober:=S} hB hO hc hco hne w lab s
 have hll:=fun k0 k1 a1 a2 a3=>e_WatchMore_lg [(48, .cell (vB b)),(64, .cell [i64 x,i64 y,i64 z]),(112, .cell [i64 b.trap.chambers,i64 b.trap.times, .sl .no 1 (es cInts b.trap.opn), .sl .no 4 (es cWord b.trap.words),i64 x,i64 y, .sl .full 1 []])] k0 k1 a1 a2 a3 s (by simp)
 generalize (canR {b with drunk:=x,run:=y,sober:=S} l&&isOneB (trapOf {b with drunk:=x,run:=y,sober:=S} l))=G2 at*
 generalize (canR b l&&isOneB (trapOf b l))=G1 at*
 clear hr hso2 hco
 by_cases hne:storiesL b=[]
 ·rw[hne]at h4 n2
  generalize storiesL {b with drunk:=x,run:=y,sober:=S}=L2 at*
  dsimp only[vB,List.length_nil]at h3 h4 h5 h7 n2
  clear h8 h9 h10 h11 h13 hll q3 m1 m2 n1
  simp only[Int.natCast_zero]at h4 n2
  rw[den_fn t11 _ _ _ rfl]
  simp only[b11]
  subst hS0
  have hS0:=trivial
  simp only[es_nil]at h3 h5 h6 h7
  cases G1<;>(try rw[q2 rfl]at h7)<;>(clear q2)
  all_goals simp (maxSteps:=6000000) (disch:=first|omega|assumption|decide +kernel|(simp;done)|(simp;omega)|fail) [run_drawnK,orSlow_none,appD_full,appD_full_nil,hl0,h1,c1,c2,c3,c4,c5,c5',h2,h3,h4,h5,h6,h7,w1,hk,hk2,hk3,hS,n2]
 ·obtain⟨r1,r2,r3,r4,r5⟩:=q3 hne
  have h13:=h13 hne r5
  rw[if_neg hne]at h8 h10 m1
  rw[if_neg r1]at h9 h11 m2
  rw[if_pos rfl]at h8 h9 m1 m2
  have hll:=hll (mustL b) (mustL {b with drunk:=x,run:=y,sober:=S}) m1 m2 r4
  have n3: ¬((storiesL b).length:Int)=0:=by have:=List.length_pos_iff.2 hne;omega
  have n4: ¬((blameL b).length:Int)<(blameL {b with drunk:=x,run:=y,sober:=S}).length:=by omega
  have n5: ¬((mustL b).length:Int)<(mustL {b with drunk:=x,run:=y,sober:=S}).length:=by omega
  clear q1 q3 r2 r3 r4 r5 m1 m2 r1
  generalize (storiesL {b with drunk:=x,run:=y,sober:=S}).length=L2 at*
  generalize mustL {b with drunk:=x,run:=y,sober:=S}=M2 at*
  generalize (blameL {b with drunk:=x,run:=y,sober:=S}).length=B2 at*
  generalize mustL b=M1 at*
  generalize (blameL b).length=B1 at*
  generalize (storiesL b).length=L1 at*
  dsimp only[vB]at h3 h5 h7 h9 h11 h13 hll
  rw[den_fn t11 _ _ _ rfl]
  simp only[b11]
  subst hS0
  have hS0:=trivial
  simp only[es_nil]at h3 h5 h6 h7 h9 h11 h13 hll
  cases G1<;>(try rw[q2 rfl]at h7)<;>(clear q2)
  all_goals simp (maxSteps:=6000000) (disch:=first|omega|assumption|decide +kernel|(simp;done)|(simp;omega)|fail) [run_drawnK,orSlow_none,appD_full,appD_full_nil,hl0,h1,c1,c2,c3,c4,c5,c5',h2,h3,h4,h5,h6,h7,h8,h9,h10,h11,h13,hll,w1,hk,hk2,hk3,hS,n1,n2,n3,n4,n5]
end Go.Proofs.YthghcainodgnkaaGreat

/-
  Watch: WatchMore, a case.
-/
namespace Go.Proofs.YthghcainodgnkaaGreat
open Go.Ab
set_option maxHeartbeats 64000000 in
theorem e_WatchMore_2(b:WBook)(x y:Int)(z K:Nat)(S l:List Int)(c1:readyK b=true)(c2:wiB (z:Int) 0 b.sober.length=true)(c3: ¬x<b.drunk)(c4: ¬y<b.run)(c5: ¬40<l.length)(hK:b.sober.length-z=K)(hS:b.sober.take K=S)(hS0:es cInt S≠[])(hl0:l=[])(lab s):den T 11 [.agg (vB b), .agg [i64 x,i64 y,i64 z], .sl .no 1 (es cInt l)] lab s=some (.bool true,s):=by
 obtain⟨hc,hB,_⟩:=readyK_ok c1
 have h1:=fun lab s=>e_ready b ⟨hc.trap.short,by have:=hc.sober;omega⟩ lab s
 have c5': ¬(40:Int)<l.length:=by omega
 have hso:=hc.sober
 have hz:=wiB_iff.1 c2
 obtain⟨hco,hso2,hr⟩:=e_WatchMore2 b x y z (b.sober.length-z) (by omega) hc hB (by omega) (by omega) l (by omega)
 have w1:IntKind.i64.wrap ((b.sober.length:Int)-z)=(K:Int):=by rw[wi _ (by omega) (by omega)];omega
 rw[hK,hS]at hco hso2 hr
 have hk2:(K:Int)≤b.sober.length:=by omega
 have hk3:(0:Int)≤(K:Int):=by omega
 have hk:K≤b.sober.length:=by omega
 have htl:S.length<1000000:=by rw[←hS,List.length_take];omega
 have h2:=fun lab s=>e_Copy11 b hc lab s
 have h3:=fun lab s=>e_ready {b with drunk:=x,run:=y,sober:=S} hso2 lab s
 cases c6:readyK {b with drunk:=x,run:=y,sober:=S}
 ·rw[c6]at h3
  dsimp only[vB]at h3
  clear hr hso2 hco
  rw[den_fn t11 _ _ _ rfl]
  simp only[b11]
  simp (maxSteps:=6000000) (disch:=first|omega|assumption|decide +kernel|(simp;done)|(simp;omega)|fail) [run_drawnK,orSlow_none,appD_full,hS0,h1,c1,c2,c3,c4,c5,c5',h2,h3,w1,hk,hk2,hk3,hS]
 obtain⟨hO,q1,q2,q3⟩:=hr c6
 rw[c6]at h3
 have h4:=fun lab s=>e_stories11 b hB hc lab s
 have h5:=fun lab s=>e_stories11 {b with drunk:=x,run:=y,sober:=S} hO hco lab s
 have h6:=fun lab s=>e_Good b hc l (by omega) lab s
 have h7:=fun lab s=>e_Good {b with drunk:=x,run:=y,sober:=S} hco l (by omega) lab s
 have h8:=fun lab s=>e_MustW b hc lab s
 have h9:=fun lab s=>e_MustW {b with drunk:=x,run:=y,sober:=S} hco lab s
 have h10:=fun lab s=>e_lies11 b hB hc lab s
 have h11:=fun lab s=>e_lies11 {b with drunk:=x,run:=y,sober:=S} hO hco lab s
 rw[hB,if_pos rfl]at h6
 rw[hO,if_pos rfl]at h7
 rw[hB,hO]at q2
 rw[open11_B hB,if_pos rfl]at h8
 rw[open11_B hO,if_pos rfl]at h9
 unfold falseN at h10 h11
 simp only[Bool.true_and]at h6 h7 q2
 have n1: ¬((storiesL b).length:Int)<0:=by omega
 have n2: ¬((storiesL {b with drunk:=x,run:=y,sober:=S}).length:Int)<(storiesL b).length:=by omega
 have m1:=must_len (b:=b)
 have m2:=must_len (b:= {b with drunk:=x,run:=y,sober:=S})
 rw[open11_B hB,if_pos rfl]at m1
 rw[open11_B hO,if_pos rfl]at m2
 have h13:=fun hne w lab s=>e_wider b {b with drunk:=x,run:=y,sober:=S} hB hO hc hco hne w lab s
 have hll:=fun k0 k1 a1 a2 a3=>e_WatchMore_lg [(48, .cell (vB b)),(64, .cell [i64 x,i64 y,i64 z]),(112, .cell [i64 b.trap.chambers,i64 b.trap.times, .sl .no 1 (es cInts b.trap.opn), .sl .no 4 (es cWord b.trap.words),i64 x,i64 y, .sl .no 1 (es cInt S)])] k0 k1 a1 a2 a3 s (by simp)
 generalize (canR {b with drunk:=x,run:=y,sober:=S} l&&isOneB (trapOf {b with drunk:=x,run:=y,sober:=S} l))=G2 at*
 generalize (canR b l&&isOneB (trapOf b l))=G1 at*
 clear hr hso2 hco
 by_cases hne:storiesL b=[]
 ·rw[hne]at h4 n2
  generalize storiesL {b with drunk:=x,run:=y,sober:=S}=L2 at*
  dsimp only[vB,List.length_nil]at h3 h4 h5 h7 n2
  clear h8 h9 h10 h11 h13 hll q3 m1 m2 n1
  simp only[Int.natCast_zero]at h4 n2
  rw[den_fn t11 _ _ _ rfl]
  simp only[b11]
  subst hl0
  have hl0:=trivial
  simp only[es_nil]at h3 h5 h6 h7
  cases G1<;>(try rw[q2 rfl]at h7)<;>(clear q2)
  all_goals simp (maxSteps:=6000000) (disch:=first|omega|assumption|decide +kernel|(simp;done)|(simp;omega)|fail) [run_drawnK,orSlow_none,appD_full,appD_full_nil,hS0,h1,c1,c2,c3,c4,c5,c5',h2,h3,h4,h5,h6,h7,w1,hk,hk2,hk3,hS,n2]
 ·obtain⟨r1,r2,r3,r4,r5⟩:=q3 hne
  have h13:=h13 hne r5
  rw[if_neg hne]at h8 h10 m1
  rw[if_neg r1]at h9 h11 m2
  rw[if_pos rfl]at h8 h9 m1 m2
  have hll:=hll (mustL b) (mustL {b with drunk:=x,run:=y,sober:=S}) m1 m2 r4
  have n3: ¬((storiesL b).length:Int)=0:=by have:=List.length_pos_iff.2 hne;omega
  have n4: ¬((blameL b).length:Int)<(blameL {b with drunk:=x,run:=y,sober:=S}).length:=by omega
  have n5: ¬((mustL b).length:Int)<(mustL {b with drunk:=x,run:=y,sober:=S}).length:=by omega
  clear q1 q3 r2 r3 r4 r5 m1 m2 r1
  generalize (storiesL {b with drunk:=x,run:=y,sober:=S}).length=L2 at*
  generalize mustL {b with drunk:=x,run:=y,sober:=S}=M2 at*
  generalize (blameL {b with drunk:=x,run:=y,sober:=S}).length=B2 at*
  generalize mustL b=M1 at*
  generalize (blameL b).length=B1 at*
  generalize (storiesL b).length=L1 at*
  dsimp only[vB]at h3 h5 h7 h9 h11 h13 hll
  rw[den_fn t11 _ _ _ rfl]
  simp only[b11]
  subst hl0
  have hl0:=trivial
  simp only[es_nil]at h3 h5 h6 h7 h9 h11 h13 hll
  cases G1<;>(try rw[q2 rfl]at h7)<;>(clear q2)
  all_goals simp (maxSteps:=6000000) (disch:=first|omega|assumption|decide +kernel|(simp;done)|(simp;omega)|fail) [run_drawnK,orSlow_none,appD_full,appD_full_nil,hS0,h1,c1,c2,c3,c4,c5,c5',h2,h3,h4,h5,h6,h7,h8,h9,h10,h11,h13,hll,w1,hk,hk2,hk3,hS,n1,n2,n3,n4,n5]
end Go.Proofs.YthghcainodgnkaaGreat

/-
  Watch: WatchMore, a case.
-/
namespace Go.Proofs.YthghcainodgnkaaGreat
open Go.Ab
set_option maxHeartbeats 64000000 in
theorem e_WatchMore_3(b:WBook)(x y:Int)(z K:Nat)(S l:List Int)(c1:readyK b=true)(c2:wiB (z:Int) 0 b.sober.length=true)(c3: ¬x<b.drunk)(c4: ¬y<b.run)(c5: ¬40<l.length)(hK:b.sober.length-z=K)(hS:b.sober.take K=S)(hS0:es cInt S≠[])(hl0:es cInt l≠[])(lab s):den T 11 [.agg (vB b), .agg [i64 x,i64 y,i64 z], .sl .no 1 (es cInt l)] lab s=some (.bool true,s):=by
 obtain⟨hc,hB,_⟩:=readyK_ok c1
 have h1:=fun lab s=>e_ready b ⟨hc.trap.short,by have:=hc.sober;omega⟩ lab s
 have c5': ¬(40:Int)<l.length:=by omega
 have hso:=hc.sober
 have hz:=wiB_iff.1 c2
 obtain⟨hco,hso2,hr⟩:=e_WatchMore2 b x y z (b.sober.length-z) (by omega) hc hB (by omega) (by omega) l (by omega)
 have w1:IntKind.i64.wrap ((b.sober.length:Int)-z)=(K:Int):=by rw[wi _ (by omega) (by omega)];omega
 rw[hK,hS]at hco hso2 hr
 have hk2:(K:Int)≤b.sober.length:=by omega
 have hk3:(0:Int)≤(K:Int):=by omega
 have hk:K≤b.sober.length:=by omega
 have htl:S.length<1000000:=by rw[←hS,List.length_take];omega
 have h2:=fun lab s=>e_Copy11 b hc lab s
 have h3:=fun lab s=>e_ready {b with drunk:=x,run:=y,sober:=S} hso2 lab s
 cases c6:readyK {b with drunk:=x,run:=y,sober:=S}
 ·rw[c6]at h3
  dsimp only[vB]at h3
  clear hr hso2 hco
  rw[den_fn t11 _ _ _ rfl]
  simp only[b11]
  simp (maxSteps:=6000000) (disch:=first|omega|assumption|decide +kernel|(simp;done)|(simp;omega)|fail) [run_drawnK,orSlow_none,appD_full,hS0,h1,c1,c2,c3,c4,c5,c5',h2,h3,w1,hk,hk2,hk3,hS]
 obtain⟨hO,q1,q2,q3⟩:=hr c6
 rw[c6]at h3
 have h4:=fun lab s=>e_stories11 b hB hc lab s
 have h5:=fun lab s=>e_stories11 {b with drunk:=x,run:=y,sober:=S} hO hco lab s
 have h6:=fun lab s=>e_Good b hc l (by omega) lab s
 have h7:=fun lab s=>e_Good {b with drunk:=x,run:=y,sober:=S} hco l (by omega) lab s
 have h8:=fun lab s=>e_MustW b hc lab s
 have h9:=fun lab s=>e_MustW {b with drunk:=x,run:=y,sober:=S} hco lab s
 have h10:=fun lab s=>e_lies11 b hB hc lab s
 have h11:=fun lab s=>e_lies11 {b with drunk:=x,run:=y,sober:=S} hO hco lab s
 rw[hB,if_pos rfl]at h6
 rw[hO,if_pos rfl]at h7
 rw[hB,hO]at q2
 rw[open11_B hB,if_pos rfl]at h8
 rw[open11_B hO,if_pos rfl]at h9
 unfold falseN at h10 h11
 simp only[Bool.true_and]at h6 h7 q2
 have n1: ¬((storiesL b).length:Int)<0:=by omega
 have n2: ¬((storiesL {b with drunk:=x,run:=y,sober:=S}).length:Int)<(storiesL b).length:=by omega
 have m1:=must_len (b:=b)
 have m2:=must_len (b:= {b with drunk:=x,run:=y,sober:=S})
 rw[open11_B hB,if_pos rfl]at m1
 rw[open11_B hO,if_pos rfl]at m2
 have h13:=fun hne w lab s=>e_wider b {b with drunk:=x,run:=y,sober:=S} hB hO hc hco hne w lab s
 have hll:=fun k0 k1 a1 a2 a3=>e_WatchMore_lg [(48, .cell (vB b)),(64, .cell [i64 x,i64 y,i64 z]),(112, .cell [i64 b.trap.chambers,i64 b.trap.times, .sl .no 1 (es cInts b.trap.opn), .sl .no 4 (es cWord b.trap.words),i64 x,i64 y, .sl .no 1 (es cInt S)])] k0 k1 a1 a2 a3 s (by simp)
 generalize (canR {b with drunk:=x,run:=y,sober:=S} l&&isOneB (trapOf {b with drunk:=x,run:=y,sober:=S} l))=G2 at*
 generalize (canR b l&&isOneB (trapOf b l))=G1 at*
 clear hr hso2 hco
 by_cases hne:storiesL b=[]
 ·rw[hne]at h4 n2
  generalize storiesL {b with drunk:=x,run:=y,sober:=S}=L2 at*
  dsimp only[vB,List.length_nil]at h3 h4 h5 h7 n2
  clear h8 h9 h10 h11 h13 hll q3 m1 m2 n1
  simp only[Int.natCast_zero]at h4 n2
  rw[den_fn t11 _ _ _ rfl]
  simp only[b11]
  cases G1<;>(try rw[q2 rfl]at h7)<;>(clear q2)
  all_goals simp (maxSteps:=6000000) (disch:=first|omega|assumption|decide +kernel|(simp;done)|(simp;omega)|fail) [run_drawnK,orSlow_none,appD_full,appD_full_nil,hS0,hl0,h1,c1,c2,c3,c4,c5,c5',h2,h3,h4,h5,h6,h7,w1,hk,hk2,hk3,hS,n2]
 ·obtain⟨r1,r2,r3,r4,r5⟩:=q3 hne
  have h13:=h13 hne r5
  rw[if_neg hne]at h8 h10 m1
  rw[if_neg r1]at h9 h11 m2
  rw[if_pos rfl]at h8 h9 m1 m2
  have hll:=hll (mustL b) (mustL {b with drunk:=x,run:=y,sober:=S}) m1 m2 r4
  have n3: ¬((storiesL b).length:Int)=0:=by have:=List.length_pos_iff.2 hne;omega
  have n4: ¬((blameL b).length:Int)<(blameL {b with drunk:=x,run:=y,sober:=S}).length:=by omega
  have n5: ¬((mustL b).length:Int)<(mustL {b with drunk:=x,run:=y,sober:=S}).length:=by omega
  clear q1 q3 r2 r3 r4 r5 m1 m2 r1
  generalize (storiesL {b with drunk:=x,run:=y,sober:=S}).length=L2 at*
  generalize mustL {b with drunk:=x,run:=y,sober:=S}=M2 at*
  generalize (blameL {b with drunk:=x,run:=y,sober:=S}).length=B2 at*
  generalize mustL b=M1 at*
  generalize (blameL b).length=B1 at*
  generalize (storiesL b).length=L1 at*
  dsimp only[vB]at h3 h5 h7 h9 h11 h13 hll
  rw[den_fn t11 _ _ _ rfl]
  simp only[b11]
  cases G1<;>(try rw[q2 rfl]at h7)<;>(clear q2)
  all_goals simp (maxSteps:=6000000) (disch:=first|omega|assumption|decide +kernel|(simp;done)|(simp;omega)|fail) [run_drawnK,orSlow_none,appD_full,appD_full_nil,hS0,hl0,h1,c1,c2,c3,c4,c5,c5',h2,h3,h4,h5,h6,h7,h8,h9,h10,h11,h13,hll,w1,hk,hk2,hk3,hS,n1,n2,n3,n4,n5]
end Go.Proofs.YthghcainodgnkaaGreat

/-
  Watch: WatchMore, whole.
-/
namespace Go.Proofs.YthghcainodgnkaaGreat
open Go.Ab
set_option maxHeartbeats 8000000 in
theorem e_WatchMore(b:WBook)(hs:ShortB b)(x y z:Int)(l:List Int)(hl:l.length<4611686018427387904)(lab s):den T 11 [.agg (vB b), .agg [i64 x,i64 y,i64 z], .sl .no 1 (es cInt l)] lab s=some (.bool true,s):=by
 have h1:=fun lab s=>e_ready b hs lab s
 have hsl:=hs.sober
 cases c1:readyK b
 ·rw[den_fn t11 _ _ _ rfl]
  simp only[b11]
  simp (maxSteps:=6000000) (disch:=first|omega|assumption|decide +kernel|(simp;done)|(simp;omega)|fail) [h1,c1]
 cases c2:wiB z 0 b.sober.length
 ·rw[den_fn t11 _ _ _ rfl]
  simp only[b11]
  simp (maxSteps:=6000000) (disch:=first|omega|assumption|decide +kernel|(simp;done)|(simp;omega)|fail) [h1,c1,c2]
 by_cases c3:x<b.drunk
 ·rw[den_fn t11 _ _ _ rfl]
  simp only[b11]
  simp (maxSteps:=6000000) (disch:=first|omega|assumption|decide +kernel|(simp;done)|(simp;omega)|fail) [h1,c1,c2,c3]
 by_cases c4:y<b.run
 ·rw[den_fn t11 _ _ _ rfl]
  simp only[b11]
  simp (maxSteps:=6000000) (disch:=first|omega|assumption|decide +kernel|(simp;done)|(simp;omega)|fail) [h1,c1,c2,c3,c4]
 by_cases c5:40<l.length
 ·have c5':(40:Int)<l.length:=by omega
  rw[den_fn t11 _ _ _ rfl]
  simp only[b11]
  simp (maxSteps:=6000000) (disch:=first|omega|assumption|decide +kernel|(simp;done)|(simp;omega)|fail) [h1,c1,c2,c3,c4,c5,c5']
 have hz:=wiB_iff.1 c2
 obtain⟨z,rfl⟩: ∃m:Nat,z=m:=⟨z.toNat,by omega⟩
 have e (S:List Int):S=[]∨es cInt S≠[]:=by
  by_cases h:S=[]
  ·exact .inl h
  ·exact .inr (by simpa using h)
 rcases e (b.sober.take (b.sober.length-z))with h|h<;>rcases e l with h'|h'
 ·exact e_WatchMore_0 b x y z _ _ l c1 c2 c3 c4 c5 rfl rfl h h' lab s
 ·exact e_WatchMore_1 b x y z _ _ l c1 c2 c3 c4 c5 rfl rfl h h' lab s
 ·exact e_WatchMore_2 b x y z _ _ l c1 c2 c3 c4 c5 rfl rfl h h' lab s
 ·exact e_WatchMore_3 b x y z _ _ l c1 c2 c3 c4 c5 rfl rfl h h' lab s
end Go.Proofs.YthghcainodgnkaaGreat

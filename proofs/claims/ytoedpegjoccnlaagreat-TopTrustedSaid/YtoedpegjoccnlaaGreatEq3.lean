/-
  Watch: guesses (not built yet).
-/
import Derived.Test.YtoedpegjoccnlaaGreatEq2
import Derived.Test.YtoedpegjoccnlaaGreatEq1
import Derived.Test.YtoedpegjoccnlaaGreatPtab
import Derived.Test.YtoedpegjoccnlaaGreatAb7
set_option linter.unusedSimpArgs false
set_option linter.unusedVariables false
namespace Go.Proofs.YtoedpegjoccnlaaGreat
open Go.Ab
theorem e_gHas(g n:Nat)(hg:g<32)(hn:n<64)(lab s):den T 115 [.int .u64 (g:Nat),i64 n] lab s=some (.bool (g.testBit n),s):=by
 have h1:((g:Int)).fdiv (2^min n IntKind.u64.bits)=((g>>>n:Nat):Int):=by
  rw[show min n IntKind.u64.bits=n by have:IntKind.u64.bits=64:=rfl;omega,Nat.shiftRight_eq_div_pow]
  rw[Int.fdiv_eq_ediv_of_nonneg _ (by exact Int.le_of_lt (Int.pow_pos (by decide)))]
  push_cast
  rfl
 have h2: ¬(n:Int)<0:=by omega
 rw[den_fn t115 _ _ _ rfl]
 simp only[b115]
 simp (disch:=first|omega|assumption|decide +kernel|(simp;done)|(simp;omega)|fail) [h1,h2]
 have e:((g:Int)>>>n)=((g>>>n:Nat):Int):=rfl
 have hb:g>>>n≤g:=by rw[Nat.shiftRight_eq_div_pow];exact Nat.div_le_self ..
 have hbits:(2:Int)^IntKind.u64.bits=18446744073709551616:=by decide
 have ht:g.testBit n=decide ((g>>>n)%2=1):=by rw[Nat.testBit_eq_decide_div_mod_eq,Nat.shiftRight_eq_div_pow]
 rw[e,ht,hbits]
 generalize g>>>n=h at*
 have e3:max ((h:Int)%18446744073709551616) 0%2=((h%2:Nat):Int):=by omega
 rw[e3]
 rcases Nat.mod_two_eq_zero_or_one h with h0|h0<;>rw[h0]<;>decide
end Go.Proofs.YtoedpegjoccnlaaGreat

/-
  Watch: the program's Check (not built yet).
-/
namespace Go.Proofs.YtoedpegjoccnlaaGreat
open Go.Ab
theorem e_isTimeW(b:WBook)(hm:Mid b.trap)(i:Int)(lab s):den T 68 [.agg (vB b),i64 i] lab s=some (.bool (wiB i 0 (b.trap.times-1)),s):=by
 obtain⟨_,h1,h2⟩:=hm
 have w1:IntKind.i64.wrap (b.trap.times-1)=b.trap.times-1:=wi _ (by omega) (by omega)
 rw[den_fn t68 _ _ _ rfl]
 simp only[b68]
 simp (disch:=first|omega|assumption|decide +kernel|(simp;done)|(simp;omega)|fail) [w1]
set_option maxHeartbeats 1000000 in
theorem e_areTimes_l(t:CTrap)(hm:Mid t)(l:List Int)(hl:l.length<4611686018427387904)(s:Stk):
 Run T b138l0 [(1, .sl .no 1 (es cInt l)),(2, .ptr s.length 32 0),(7, .sl .no 1 (es cInt l)),(8,i64 l.length),(9,i64 0)] ([(32, .cell (vT t))]::s)=
  if rising l 0 (t.times-1)=true then some (.exit 0,[(1, .sl .no 1 (es cInt l)),(2, .ptr s.length 32 0),(7, .sl .no 1 (es cInt l)),(8,i64 l.length),(9,i64 l.length),(10, .bool false)],[(32, .cell (vT t))]::s)
  else some (.ret,[(4, .bool false)],[(32, .cell (vT t))]::s):=by
 obtain⟨_,m1,m2⟩:=hm
 have w1:IntKind.i64.wrap (t.times-1)=t.times-1:=wi _ (by omega) (by omega)
 refine(loop_all (List.range l.length) (risingAt l 0 (t.times-1)) (fun k=>[(1, .sl .no 1 (es cInt l)),(2, .ptr s.length 32 0),(7, .sl .no 1 (es cInt l)),(8,i64 l.length),(9,i64 k)]) (fun _=>[(32, .cell (vT t))]::s) (.ret,[(4, .bool false)],[(32, .cell (vT t))]::s) (.exit 0,[(1, .sl .no 1 (es cInt l)),(2, .ptr s.length 32 0),(7, .sl .no 1 (es cInt l)),(8,i64 l.length),(9,i64 ((List.range l.length).length:Nat)),(10, .bool false)],[(32, .cell (vT t))]::s) (by simp) (by simp) ?_ (by simp) _ _ (by simp) (by simp)).trans (by simp only[List.length_range];rfl)
 intro k hk
 simp only[List.length_range]at hk
 simp only[List.getElem_range]
 have hg:l.getD k 0=l[k]:=by simp[List.getD,hk]
 have hk2:(k:Int)<l.length:=by omega
 cases h0:wiB l[k] 0 (t.times-1)
 ·simp (disch:=first|omega|assumption|decide +kernel|(simp;done)|(simp;omega)|fail) [hk,hk2,h0,w1,risingAt]
 by_cases h1:k=0
 ·subst h1
  simp (disch:=first|omega|assumption|decide +kernel|(simp;done)|(simp;omega)|fail) [hk,hk2,h0,w1,risingAt,wi]
 have hk1:k-1<l.length:=by omega
 have h1p:0<k:=by omega
 have h1q:(1:Int)≤k:=by omega
 have hg1:l.getD (k-1) 0=l[k-1]:=by simp[List.getD,hk1]
 have hn:((k:Int)-1).toNat=k-1:=by omega
 have wk1:IntKind.i64.wrap ((k:Int)-1)=(k:Int)-1:=wi _ (by omega) (by omega)
 have wk2:IntKind.i64.wrap ((k:Int)+1)=(k:Int)+1:=wi _ (by omega) (by omega)
 have hlt:(k:Int)-1<l.length:=by omega
 by_cases h2:l[k-1]<l[k]
 ·have h3: ¬l[k]≤l[k-1]:=by omega
  simp (disch:=first|omega|assumption|decide +kernel|(simp;done)|(simp;omega)|fail) [hk,hk2,hk1,h0,w1,h1,h1p,h1q,h2,h3,hn,hlt,wk1,wk2,risingAt]
 ·have h3:l[k]≤l[k-1]:=by omega
  simp (disch:=first|omega|assumption|decide +kernel|(simp;done)|(simp;omega)|fail) [hk,hk2,hk1,h0,w1,h1,h1p,h1q,h2,h3,hn,hlt,wk1,wk2,risingAt]
theorem e_areTimes(t:CTrap)(hm:Mid t)(l:List Int)(hl:l.length<4611686018427387904)(lab s):den T 138 [.agg (vT t), .sl .no 1 (es cInt l)] lab s=some (.bool (rising l 0 (t.times-1)),s):=by
 have h:=e_areTimes_l t hm l hl s
 rw[den_fn t138 _ _ _ rfl]
 simp only[b138]
 cases hr:rising l 0 (t.times-1)
 ·rw[hr,if_neg (by simp)]at h
  simp (disch:=first|omega|assumption|decide +kernel|(simp;done)|(simp;omega)|fail) [h]
 ·rw[hr,if_pos rfl]at h
  simp (disch:=first|omega|assumption|decide +kernel|(simp;done)|(simp;omega)|fail) [h]
end Go.Proofs.YtoedpegjoccnlaaGreat

/-
  Watch: the program's Check.
-/
namespace Go.Proofs.YtoedpegjoccnlaaGreat
open Go.Ab
theorem e_CheckW(b:WBook)(hc:CopyB b)(lab s):den T 111 [.agg (vB b)] lab s=some (i64 (if bookB b=true then 0 else 110),s):=by
 have h:=fun lab s=>e_Check1C b.trap hc.trap.short lab s
 have h1:=hc.sober
 unfold bookB
 rw[den_fn t111 _ _ _ rfl]
 simp only[b111]
 cases c1:trapB b.trap
 ·simp (maxSteps:=1000000) (disch:=first|omega|assumption|decide +kernel|(simp;done)|(simp;omega)|fail) [h,c1]
 have hm:=trapB_mid c1
 have ha:=fun lab s=>e_areTimes b.trap hm b.sober (by omega) lab s
 cases c2:wiB b.drunk 0 5
 ·simp (maxSteps:=1000000) (disch:=first|omega|assumption|decide +kernel|(simp;done)|(simp;omega)|fail) [h,c1,c2]
 cases c3:wiB b.run 0 5
 ·simp (maxSteps:=1000000) (disch:=first|omega|assumption|decide +kernel|(simp;done)|(simp;omega)|fail) [h,c1,c2,c3]
 cases c4:rising b.sober 0 (b.trap.times-1)<;>simp (maxSteps:=1000000) (disch:=first|omega|assumption|decide +kernel|(simp;done)|(simp;omega)|fail) [h,c1,c2,c3,c4,ha]
end Go.Proofs.YtoedpegjoccnlaaGreat

/-
  Watch: guessOf (not built yet).
-/
namespace Go.Proofs.YtoedpegjoccnlaaGreat
open Go.Ab
theorem or_word: ∀a,a<32→ ∀n,n<5→IntKind.u64.wrap ((a%2^IntKind.u64.bits|||(IntKind.u64.wrap (2^min n IntKind.u64.bits)%2^IntKind.u64.bits).toNat:Nat):Int)=((a|||1<<<n:Nat):Int):=by decide +kernel
theorem or_lt: ∀a,a<32→ ∀n,n<5→a|||1<<<n<32:=by decide +kernel
def orBit(g:Nat)(n:Int):Nat:=g|||(1<<<n.toNat)
theorem e_guessOf_l(l:List Int)(hl:l.length<1000000)(hin: ∀n,n∈l→0≤n∧n<5)(s:Stk):
 Run T b140l0 [(2, .int .u64 0),(5, .sl .no 1 (es cInt l)),(6,i64 l.length),(7,i64 0)] ([]::s)=some (.exit 0,[(2, .int .u64 (((l).foldl (orBit) 0):Nat)),(5, .sl .no 1 (es cInt l)),(6,i64 l.length),(7,i64 ((l).length:Nat)),(8, .bool false)],[]::s):=by
 have key:=loop_fold (T:=T) (live:=[2,5,6,7]) (keep:=[]) (b:=d140l0) (l) (fun _ g=>g<32) (orBit) (fun k (a:Nat)=>[(2, .int .u64 (a:Nat)),(5, .sl .no 1 (es cInt l)),(6,i64 l.length),(7,i64 (k:Nat))]) (fun k (a:Nat)=>[]::s) (fun(a:Nat)=>(.exit 0,[(2, .int .u64 (a:Nat)),(5, .sl .no 1 (es cInt l)),(6,i64 l.length),(7,i64 ((l).length:Nat)),(8, .bool false)],[]::s)) (by simp) ?_ ?_ ?_ 0 (by simp) [(2, .int .u64 0),(5, .sl .no 1 (es cInt l)),(6,i64 l.length),(7,i64 0)] ([]::s) (by simp) (by simp)
 ·exact key
 ·intro k a hk hi
  have hk2:(k:Int)<l.length:=by omega
  have hb:=hin _ (List.getElem_mem hk)
  unfold orBit
  generalize hx:l[k]=x at*
  obtain⟨n,rfl⟩: ∃n:Nat,x=n:=⟨x.toNat,by omega⟩
  have hn: ¬(n:Int)<0:=by omega
  simp (maxSteps:=1000000) (disch:=first|omega|assumption|decide +kernel|(simp;done)|(simp;omega)|fail) [hk,hk2,hx,hn,or_word a hi n (by omega),wk k (by omega)]
 ·intro k a hk hi
  have hb:=hin _ (List.getElem_mem hk)
  exact or_lt a hi _ (by omega)
 ·intro a hi
  simp
theorem e_guessOf(l:List Int)(hl:l.length<1000000)(hin: ∀n,n∈l→0≤n∧n<5)(lab s):den T 140 [.sl .no 1 (es cInt l)] lab s=some (.int .u64 (maskL l:Nat),s):=by
 have h:=e_guessOf_l l hl hin s
 rw[show l.foldl orBit 0=maskL l from rfl]at h
 generalize maskL l=m at*
 rw[den_fn t140 _ _ _ rfl]
 simp only[b140]
 simp (disch:=first|omega|assumption|decide +kernel|(simp;done)|(simp;omega)|fail) [h]
end Go.Proofs.YtoedpegjoccnlaaGreat

/-
  Watch: guess.run.
-/
namespace Go.Proofs.YtoedpegjoccnlaaGreat
open Go.Ab
theorem shl_word: ∀g:Nat,g<32→IntKind.u64.wrap ((g%2^IntKind.u64.bits&&&(IntKind.u64.wrap ((g:Int)*2)%2^IntKind.u64.bits).toNat:Nat):Int)=((g&&&(g<<<1):Nat):Int):=by decide +kernel
def runD:Nat→Nat→Bool
 |0,g=>g==0
 |f+1,g=>g==0||runD f (g&&&(g<<<1))
theorem runD_all: ∀g,g<32→runD 5 g=true:=by decide +kernel
theorem and_shl_lt: ∀g,g<32→g&&&(g<<<1)<32:=by decide +kernel
theorem e_run_0(c:Nat)(s:Stk):Run T b139l0 [(0, .int .u64 0),(3,i64 (c:Nat))] ([]::s)=some (.exit 0,[(0, .int .u64 0),(3,i64 (c:Nat)),(5, .bool false)],[]::s):=by
 unfold b139l0
 rw[run_head (e':=[(0, .int .u64 0),(3,i64 (c:Nat))]) (s':=[]::s) _ _ _ _ _ (by simp) (by simp)]
 simp (maxSteps:=1000000) (disch:=first|omega|assumption|decide +kernel|(simp;done)|(simp;omega)|fail) []
theorem e_run_s(g:Nat)(hg:g<32)(h0:g≠0)(c:Nat)(hc:c<100)(s:Stk):
 Run T b139l0 [(0, .int .u64 (g:Nat)),(3,i64 (c:Nat))] ([]::s)=Run T b139l0 [(0, .int .u64 (g&&&(g<<<1):Nat)),(3,i64 ((c+1:Nat):Int))] ([]::s):=by
 have h1: ¬(g:Int)=0:=by omega
 conv=>lhs;unfold b139l0
 rw[run_head (e':=[(0, .int .u64 (g:Nat)),(3,i64 (c:Nat))]) (s':=[]::s) _ _ _ _ _ (by simp) (by simp)]
 have:Run T d139l0 [(0, .int .u64 (g:Nat)),(3,i64 (c:Nat))] ([]::s)=some (.normal,[(0, .int .u64 (g&&&(g<<<1):Nat)),(3,i64 ((c+1:Nat):Int))],[]::s):=by
  simp (maxSteps:=1000000) (disch:=first|omega|assumption|decide +kernel|(simp;done)|(simp;omega)|fail) [h1,h0,shl_word g hg,wk c (by omega)]
 rw[this,thenRun_normal]
 rfl
theorem e_run_l(s:Stk): ∀f g,g<32→runD f g=true→ ∀c:Nat,c+f<100→Run T b139l0 [(0, .int .u64 (g:Nat)),(3,i64 (c:Nat))] ([]::s)=some (.exit 0,[(0, .int .u64 0),(3,i64 ((c+runN (f+1) g:Nat):Int)),(5, .bool false)],[]::s)
 |0,g,_,h,c,_=>by
   have:g=0:=by simpa [runD]using h
   subst this
   exact e_run_0 c s
 |f+1,g,hg,h,c,hc=>by
   by_cases h0:g=0
   ·subst h0
    have:runN (f+2) 0=0:=by simp[runN]
    rw[this]
    exact e_run_0 c s
   ·have h2:runD f (g&&&(g<<<1))=true:=by
     simp only[runD,Bool.or_eq_true,beq_iff_eq]at h
     exact h.resolve_left h0
    rw[e_run_s g hg h0 c (by omega) s,e_run_l s f _ (and_shl_lt g hg) h2 (c+1) (by omega)]
    have:runN (f+1+1) g=runN (f+1) (g&&&(g<<<1))+1:=by conv=>lhs;unfold runN;rw[if_neg h0]
    rw[this,show c+1+runN (f+1) (g&&&g<<<1)=c+(runN (f+1) (g&&&g<<<1)+1)by omega]
theorem e_run(g:Nat)(hg:g<32)(lab s):den T 139 [.int .u64 (g:Nat)] lab s=some (i64 (runN 6 g:Nat),s):=by
 have h:=e_run_l s 5 g hg (runD_all g hg) 0 (by omega)
 rw[Nat.zero_add]at h
 generalize runN 6 g=r at*
 simp only[Int.natCast_zero]at h
 rw[den_fn t139 _ _ _ rfl]
 simp only[b139]
 simp (disch:=first|omega|assumption|decide +kernel|(simp;done)|(simp;omega)|fail) [h]
end Go.Proofs.YtoedpegjoccnlaaGreat

/-
  Watch: how many times a guess has; whether it can be (not built yet).
-/
namespace Go.Proofs.YtoedpegjoccnlaaGreat
open Go.Ab
set_option maxHeartbeats 1000000 in
theorem e_ones(g:Nat)(hg:g<32)(lab s):den T 122 [.int .u64 (g:Nat)] lab s=some (i64 ((bitsL g).length:Nat),s):=by
 have h1: ∀lab s,den T 146 [.int .u64 (g:Nat)] lab s=some (i64 ((bitsL g).length:Nat),s):=by
  intro lab s
  rw[den_fn t146 _ _ _ rfl]
  simp only[b146]
  simp (maxSteps:=1000000) (disch:=first|omega|assumption|decide +kernel|(simp;done)|(simp;omega)|fail) []
  revert g
  decide +kernel
 rw[den_fn t122 _ _ _ rfl]
 simp only[b122]
 simp (disch:=first|omega|assumption|decide +kernel|(simp;done)|(simp;omega)|fail) [h1]
end Go.Proofs.YtoedpegjoccnlaaGreat

/-
  Watch: canBe (not built yet).
-/
namespace Go.Proofs.YtoedpegjoccnlaaGreat
open Go.Ab
abbrev vK(b:WBook)(st:V):List V:=[i64 b.trap.chambers,i64 b.trap.times, .sl .no 1 (es cInts b.trap.opn), .sl .no 4 (es cWord b.trap.words),i64 b.drunk,i64 b.run, .sl .no 1 (es cInt b.sober),st]
theorem and_word: ∀g,g<32→ ∀m,m<32→IntKind.u64.wrap ((g%2^IntKind.u64.bits&&&m%2^IntKind.u64.bits:Nat):Int)=((g&&&m:Nat):Int):=by decide +kernel
theorem maskL_lt5 {l:List Int}(h:l∈allL 5):maskL l<32:=mask_lt 5 (by decide) l h
theorem allL5_in {l:List Int}(h:l∈allL 5):l.length<1000000∧ ∀n,n∈l→0≤n∧n<5:=by
 obtain⟨h1,h2⟩:=allL_mem.1 h
 have:=pair_lenL (lo:=0) h1 h2
 exact⟨by omega,h2⟩
set_option maxHeartbeats 1000000 in
theorem e_canBe(b:WBook)(st:V)(g:Nat)(hg:g<32)(hs5:b.sober∈allL 5)(d l:Nat)(s:Stk)(hd: ¬d=s.length)(h:sget s d l=some (.cell (vK b st)))(lab):
 den T 112 [.ptr d l 0, .int .u64 (g:Nat)] lab s=some (.bool (canG b g),s):=by
 have h1:=fun lab s=>e_ones g hg lab s
 have h2:=fun lab s=>e_run g hg lab s
 obtain⟨q1,q2⟩:=allL5_in hs5
 have h3:=fun lab s=>e_guessOf b.sober q1 q2 lab s
 have hm:=maskL_lt5 hs5
 have hw:=and_word g hg (maskL b.sober) hm
 unfold canG
 rw[den_fn t112 _ _ _ rfl]
 simp only[b112]
 generalize maskL b.sober=m at*
 generalize (bitsL g).length=o at*
 generalize runN 6 g=r at*
 by_cases c1:(o:Int)≤b.drunk
 ·by_cases c2:(r:Int)≤b.run
  ·have c3:(((g&&&m:Nat):Int)=0)=(g&&&m=0):=by simp only[eq_iff_iff];omega
   simp (maxSteps:=1000000) (disch:=first|omega|assumption|decide +kernel|(simp;done)|(simp;omega)|fail) [run_drawnK,orSlow_none,hd,h,h1,h2,h3,hw,c1,c2,c3]
  ·simp (maxSteps:=1000000) (disch:=first|omega|assumption|decide +kernel|(simp;done)|(simp;omega)|fail) [run_drawnK,orSlow_none,hd,h,h1,h2,c1,c2]
 ·simp (maxSteps:=1000000) (disch:=first|omega|assumption|decide +kernel|(simp;done)|(simp;omega)|fail) [run_drawnK,orSlow_none,hd,h,h1,c1]
end Go.Proofs.YtoedpegjoccnlaaGreat

/-
  Watch: a trap without some words (not built yet).
-/
namespace Go.Proofs.YtoedpegjoccnlaaGreat
open Go.Ab
def keepW(ws:List CWord)(p:Nat→Bool):List CWord:=((List.range ws.length).filter fun k=> !p k).map fun k=>ws.getD k default
def keepF(ws:List CWord)(p:Nat→Bool)(a:List CWord)(k:Nat):List CWord:=if p k=true then a else a ++[ws.getD k default]
theorem keepF_fold(ws:List CWord)(p:Nat→Bool): ∀(l:List Nat) (a:List CWord),l.foldl (keepF ws p) a=a ++(l.filter fun k=> !p k).map fun k=>ws.getD k default
 |[],a=>by simp
 |k::l,a=>by
   rw[List.foldl_cons,keepF_fold ws p l,List.filter_cons]
   unfold keepF
   cases p k<;>simp
theorem keepW_fold(ws:List CWord)(p:Nat→Bool):(List.range ws.length).foldl (keepF ws p) []=keepW ws p:=by rw[keepF_fold,List.nil_append];rfl
theorem getD_range {α:Type} [Inhabited α](ws:List α):(List.range ws.length).map (fun k=>ws.getD k default)=ws:=by
 refine List.ext_getElem (by simp) fun k h1 h2=> ?_
 simp[List.getD,h2]
theorem keepW_filter(ws:List CWord)(q:CWord→Bool):keepW ws (fun k=>q (ws.getD k default))=ws.filter fun w=> !q w:=by
 unfold keepW
 conv=>rhs;rw[←getD_range ws]
 rw[List.filter_map]
 rfl
theorem keepW_trap(b:WBook)(l:List Int): {b.trap with words:=keepW b.trap.words fun k=>l.contains (b.trap.words.getD k default).time}=trapOf b l:=by
 rw[keepW_filter b.trap.words fun w=>l.contains w.time]
 rfl
def wioF(b:WBook)(d:Nat)(a:List CWord):Ab.Loc:=[(64, .cell [i64 0,i64 0, .sl .full 1 [], .sl .full 4 []]),(80, .cell [i64 b.trap.chambers,i64 b.trap.times, .sl .no 1 (es cInts b.trap.opn), .sl (.own d 85) 4 (es cWord a)]),(85, .tok a.length)]
set_option maxHeartbeats 2000000 in
theorem e_without_l(b:WBook)(hwl:b.trap.words.length<1000000)(f:Nat)(cap:List V)(p:Nat→Bool)(s:Stk)(hc1:V.stripAll cap=cap)(hc2: ∀keep,V.mapAll (dropR s.length keep) cap=cap)
 (hF: ∀k,k<b.trap.words.length→ ∀(L:Ab.Loc) lab,den T f (i64 k::cap) lab (L::s)=some (.bool (p k),L::s)):
 Run T b113l0 [(1, .fn f [] cap),(4, .ptr s.length 64 0),(5, .ptr s.length 80 0),(19, .sl .no 4 (es cWord b.trap.words)),(20,i64 b.trap.words.length),(21,i64 0)] (wioF b s.length []::s)=
  some (.exit 0,[(1, .fn f [] cap),(4, .ptr s.length 64 0),(5, .ptr s.length 80 0),(19, .sl .no 4 (es cWord b.trap.words)),(20,i64 b.trap.words.length),(21,i64 b.trap.words.length),(22, .bool false)],wioF b s.length (keepW b.trap.words p)::s):=by
 have key:=loop_fold (T:=T) (live:=[1,4,5,19,20,21]) (keep:=[64,80,85]) (b:=d113l0) (List.range b.trap.words.length) (fun k (a:List CWord)=>a.length≤k) (keepF b.trap.words p)
  (fun k _=>[(1, .fn f [] cap),(4, .ptr s.length 64 0),(5, .ptr s.length 80 0),(19, .sl .no 4 (es cWord b.trap.words)),(20,i64 b.trap.words.length),(21,i64 (k:Nat))]) (fun _ a=>wioF b s.length a::s)
  (fun a=>(.exit 0,[(1, .fn f [] cap),(4, .ptr s.length 64 0),(5, .ptr s.length 80 0),(19, .sl .no 4 (es cWord b.trap.words)),(20,i64 b.trap.words.length),(21,i64 b.trap.words.length),(22, .bool false)],wioF b s.length a::s))
  (by simp) ?_ ?_ ?_ [] (by simp) [(1, .fn f [] cap),(4, .ptr s.length 64 0),(5, .ptr s.length 80 0),(19, .sl .no 4 (es cWord b.trap.words)),(20,i64 b.trap.words.length),(21,i64 0)] (wioF b s.length []::s) (by simp[hc2]) (by simp[wioF])
 ·rw[keepW_fold]at key
  exact key
 ·intro k a hk hi
  simp only[List.length_range]at hk
  simp only[List.getElem_range]
  have hk2:(k:Int)<b.trap.words.length:=by omega
  have e0: ∀w:CWord,es cWord a ++[[i64 w.time,i64 w.chamber,i64 w.lo,i64 w.hi]]=es cWord (a ++[w]):=fun w=>by simp[es]
  have e1:=e0 b.trap.words[k]
  have eg:b.trap.words.getD k default=b.trap.words[k]:=by simp[List.getD,hk]
  have h1:=hF k hk
  unfold keepF
  rw[eg]
  cases h:p k
  ·rw[h]at h1
   simp (maxSteps:=1000000) (disch:=first|omega|assumption|decide +kernel|(simp;done)|(simp;omega)|fail) [run_drawnK,wioF,hk,hk2,hc1,hc2,h1,e1,appK_own1,wk k (by omega)]
  ·rw[h]at h1
   simp (maxSteps:=1000000) (disch:=first|omega|assumption|decide +kernel|(simp;done)|(simp;omega)|fail) [wioF,hk,hk2,hc1,hc2,h1,wk k (by omega)]
 ·intro k a hk hi
  unfold keepF
  split<;>(try simp only[List.length_append,List.length_cons,List.length_nil])<;>omega
 ·intro a hi
  simp[wioF,hc2]
set_option maxHeartbeats 2000000 in
theorem e_without(b:WBook)(hwl:b.trap.words.length<1000000)(st:V)(d l f:Nat)(cap:List V)(p:Nat→Bool)(s:Stk)(hd: ¬d=s.length)(h:sget s d l=some (.cell (vK b st)))(hc1:V.stripAll cap=cap)(hc2: ∀keep,V.mapAll (dropR s.length keep) cap=cap)
 (hF: ∀k,k<b.trap.words.length→ ∀(L:Ab.Loc) lab,den T f (i64 k::cap) lab (L::s)=some (.bool (p k),L::s)) (lab):
 den T 113 [.ptr d l 0, .fn f [] cap] lab s=some (.agg (vT {b.trap with words:=keepW b.trap.words p}),s):=by
 have key:=e_without_l b hwl f cap p s hc1 hc2 hF
 simp only[wioF,es_nil,List.length_nil]at key
 rw[den_fn t113 _ _ _ rfl]
 simp only[b113]
 simp (maxSteps:=1000000) (disch:=first|omega|assumption|decide +kernel|(simp;done)|(simp;omega)|fail) [hd,h,key]
end Go.Proofs.YtoedpegjoccnlaaGreat

/-
  Watch: the list of a guess (not built yet).
-/
namespace Go.Proofs.YtoedpegjoccnlaaGreat
open Go.Ab
def topN(g:Nat):Nat:=((List.range 6).find? fun n=>g>>>n==0).getD 6
def bitF(g:Nat)(a:List Int)(k:Nat):List Int:=if g.testBit k=true then a ++[(k:Int)]else a
theorem top_le: ∀g,g<32→topN g≤5:=by decide +kernel
theorem top_pos: ∀g,g<32→ ∀k,k<topN g→g>>>k≠0:=by
 intro g hg k hk
 have h5:=top_le g hg
 have: ∀g,g<32→ ∀k,k<5→k<topN g→g>>>k≠0:=by decide +kernel
 exact this g hg k (by omega) hk
theorem top_end: ∀g,g<32→g>>>(topN g)=0:=by decide +kernel
theorem top_bits: ∀g,g<32→(List.range (topN g)).foldl (bitF g) []=bitsL g:=by decide +kernel
theorem shr_word {g n:Nat}(hn:n<64):((g:Int)).fdiv (2^min n IntKind.u64.bits)=((g>>>n:Nat):Int):=by
 rw[show min n IntKind.u64.bits=n by have:IntKind.u64.bits=64:=rfl;omega,Nat.shiftRight_eq_div_pow]
 rw[Int.fdiv_eq_ediv_of_nonneg _ (by exact Int.le_of_lt (Int.pow_pos (by decide)))]
 push_cast
 rfl
theorem e0_gHas(g n:Nat)(hg:g<32)(hn:n<64)(lab s):den T0 115 [.int .u64 (g:Nat),i64 n] lab s=some (.bool (g.testBit n),s):=by
 have h1:=shr_word (g:=g) hn
 have h2: ¬(n:Int)<0:=by omega
 rw[den_fn u115 _ _ _ rfl]
 simp only[b115]
 simp (disch:=first|omega|assumption|decide +kernel|(simp;done)|(simp;omega)|fail) [h1,h2]
 have e:((g:Int)>>>n)=((g>>>n:Nat):Int):=rfl
 have hb:g>>>n≤g:=by rw[Nat.shiftRight_eq_div_pow];exact Nat.div_le_self ..
 have hbits:(2:Int)^IntKind.u64.bits=18446744073709551616:=by decide
 have ht:g.testBit n=decide ((g>>>n)%2=1):=by rw[Nat.testBit_eq_decide_div_mod_eq,Nat.shiftRight_eq_div_pow]
 rw[e,ht,hbits]
 generalize g>>>n=h at*
 have e3:max ((h:Int)%18446744073709551616) 0%2=((h%2:Nat):Int):=by omega
 rw[e3]
 rcases Nat.mod_two_eq_zero_or_one h with h0|h0<;>rw[h0]<;>decide
set_option maxHeartbeats 1000000 in
theorem e0_list_l(g:Nat)(hg:g<32)(s:Stk):
 Run T0 b119l0 [(3, .sl (.own s.length 49) 1 []),(0, .int .u64 (g:Nat)),(3, .sl .full 1 []),(4,i64 0)] ([(49, .tok 0)]::s)=
  some (.exit 0,[(0, .int .u64 (g:Nat)),(3, .sl (.own s.length 49) 1 (es cInt (bitsL g))),(4,i64 (topN g:Nat)),(8, .bool false)],[(49, .tok (bitsL g).length)]::s):=by
 have h5:=top_le g hg
 have key:=loop_fold (T:=T0) (live:=[0,3,4]) (keep:=[49]) (b:=d119l0) (List.range (topN g)) (fun k (a:List Int)=>a.length≤k) (bitF g)
  (fun k a=>[(0, .int .u64 (g:Nat)),(3, .sl (.own s.length 49) 1 (es cInt a)),(4,i64 (k:Nat))]) (fun _ a=>[(49, .tok a.length)]::s)
  (fun a=>(.exit 0,[(0, .int .u64 (g:Nat)),(3, .sl (.own s.length 49) 1 (es cInt a)),(4,i64 (topN g:Nat)),(8, .bool false)],[(49, .tok a.length)]::s))
  (by simp) ?_ ?_ ?_ [] (by simp) [(3, .sl (.own s.length 49) 1 []),(0, .int .u64 (g:Nat)),(3, .sl .full 1 []),(4,i64 0)] ([(49, .tok 0)]::s) (by simp) (by simp)
 ·rw[top_bits g hg]at key
  exact key
 ·intro k a hk hi
  simp only[List.length_range]at hk
  simp only[List.getElem_range]
  have h1:=shr_word (g:=g) (n:=k) (by omega)
  have h2: ¬(k:Int)<0:=by omega
  have h3:=top_pos g hg k hk
  have h4:=fun lab s=>e0_gHas g k hg (by omega) lab s
  have e0:es cInt a ++[[i64 (k:Nat)]]=es cInt (a ++[(k:Int)]):=by simp[es]
  have hk9:k<1000:=by omega
  unfold bitF
  generalize g>>>k=x at*
  have h6:0<x:=by omega
  cases hb:g.testBit k
  ·rw[hb]at h4
   simp (maxSteps:=1000000) (disch:=first|omega|assumption|decide +kernel|(simp;done)|(simp;omega)|fail) [h1,h2,h4,h6,wk k (by omega)]
  ·rw[hb]at h4
   simp (maxSteps:=1000000) (disch:=first|omega|assumption|decide +kernel|(simp;done)|(simp;omega)|fail) [h1,h2,h4,h6,e0,appK_own1,wk k (by omega)]
 ·intro k a hk hi
  unfold bitF
  split<;>(try simp only[List.length_append,List.length_cons,List.length_nil])<;>omega
 ·intro a hi
  simp only[List.length_range]
  have h1:=shr_word (g:=g) (n:=topN g) (by omega)
  rw[top_end g hg]at h1
  have h2: ¬(topN g:Int)<0:=by omega
  generalize topN g=n at*
  simp (maxSteps:=1000000) (disch:=first|omega|assumption|decide +kernel|(simp;done)|(simp;omega)|fail) [h1,h2]
theorem e0_list(g:Nat)(hg:g<32)(lab s):den T0 119 [.int .u64 (g:Nat)] lab s=some (.sl .no 1 (es cInt (bitsL g)),s):=by
 have key:=e0_list_l g hg s
 generalize bitsL g=L at*
 generalize topN g=n at*
 rw[den_fn u119 _ _ _ rfl]
 simp only[b119]
 simp (maxSteps:=1000000) (disch:=first|omega|assumption|decide +kernel|(simp;done)|(simp;omega)|fail) [key]
end Go.Proofs.YtoedpegjoccnlaaGreat

/-
  Watch: the order of stories (computed where no primitive is) (not built yet).
-/
namespace Go.Proofs.YtoedpegjoccnlaaGreat
open Go.Ab
theorem e0_isNaN(a:Int)(lab s):den T0 164 [i64 a] lab s=some (.bool false,s):=by
 rw[den_fn u164 _ _ _ rfl]
 simp[b164]
def cmpI(a b:Int):Int:=if a<b then -1 else if b<a then 1 else 0
theorem e0_Compare(a b:Int)(lab s):den T0 144 [i64 a,i64 b] lab s=some (i64 (cmpI a b),s):=by
 rw[den_fn u144 _ _ _ rfl]
 simp only[b144,cmpI]
 by_cases h:a<b
 ·simp (disch:=first|omega|assumption|decide +kernel|(simp;done)|(simp;omega)|fail) [h,e0_isNaN]
 ·by_cases h':b<a<;>simp (disch:=first|omega|assumption|decide +kernel|(simp;done)|(simp;omega)|fail) [h,h',e0_isNaN]
theorem e0_Or(a b:Int)(lab s):den T0 120 [.sl .no 1 [[i64 a],[i64 b]]] lab s=some (i64 (if a≠0 then a else b),s):=by
 have hl: ∀s:Stk,Run T0 b120l0 [(3,i64 0),(6, .sl .no 1 (es cInt [a,b])),(7,i64 2),(8,i64 0)] ([]::s)=
  some (foldS (fun(_:Unit) x=>if x≠0 then .inr (.ret,[(2,i64 x)],[]::s)else .inl ()) (fun _=>(.exit 0,[(3,i64 0),(6, .sl .no 1 (es cInt [a,b])),(7,i64 2),(8,i64 2),(9, .bool false)],[]::s)) [a,b] ()):=by
  intro s
  refine loop_list0 (T:=T0) [a,b] (fun k _=>[(3,i64 0),(6, .sl .no 1 (es cInt [a,b])),(7,i64 2),(8,i64 k)]) (fun _ _=>[]::s) _ _ ?_ ?_ (by simp) (by simp) () _ _ (by simp) (by simp)
  ·intro k _ hk
   have hk':k<2:=by simpa using hk
   have e:([a,b]:List Int)[k]? =some [a,b][k]:=by simp
   generalize hx:[a,b][k]=x at e
   have hk2:(k:Int)<2:=by omega
   by_cases h:x=0<;>simp (disch:=first|omega|assumption|decide +kernel|(simp;done)|(simp;omega)|fail) [hk',hk2,h,hx,wk k (by omega),nxt]
  ·intro _ x q h;split at h<;>simp at h;subst h;simp
 rw[den_fn u120 _ _ _ rfl]
 simp only[b120]
 have e2:([[i64 a],[i64 b]]:List (List V))=es cInt [a,b]:=rfl
 rw[e2]
 by_cases h:a=0
 ·subst h
  by_cases h':b=0
  ·subst h';simp (disch:=first|omega|assumption|decide +kernel|(simp;done)|(simp;omega)|fail) [hl,foldS]
  ·simp (disch:=first|omega|assumption|decide +kernel|(simp;done)|(simp;omega)|fail) [hl,h',foldS]
 ·simp (disch:=first|omega|assumption|decide +kernel|(simp;done)|(simp;omega)|fail) [hl,h,foldS]
def cmpStep(a b:List Int)(k:Nat):Option Int:=if b.length≤k then some 1 else if a.getD k 0<b.getD k 0 then some (-1)else if b.getD k 0<a.getD k 0 then some 1 else none
def cmpF(a b:List Int):Int:=match (List.range a.length).findSome? (cmpStep a b)with
 |some n=>n
 |none=>if a.length<b.length then -1 else 0
theorem foldS_some {α ρ:Type}(f:α→Option Int)(g:Int→ρ)(r:ρ): ∀l:List α,foldS (fun(_:Unit) x=>match f x with|some n=> .inr (g n)|none=> .inl ()) (fun _=>r) l ()=match l.findSome? f with|some n=>g n|none=>r
 |[]=>rfl
 |x::l=>by
   simp only[foldS,List.findSome?]
   cases h:f x<;>simp only[]
   exact foldS_some f g r l
theorem e0_cmp_l(a b:List Int)(hb:b.length<4611686018427387904)(ha:a.length<4611686018427387904)(s:Stk):
 Run T0 b121l0 [(0, .sl .no 1 (es cInt a)),(1, .sl .no 1 (es cInt b)),(9, .sl .no 1 (es cInt a)),(10,i64 a.length),(11,i64 0)] ([]::s)=
  some (match (List.range a.length).findSome? (cmpStep a b)with|some n=>(.ret,[(4,i64 n)],[]::s)|none=>(.exit 0,[(0, .sl .no 1 (es cInt a)),(1, .sl .no 1 (es cInt b)),(9, .sl .no 1 (es cInt a)),(10,i64 a.length),(11,i64 a.length),(12, .bool false)],[]::s)):=by
 rw[←foldS_some]
 refine loop_list0 (T:=T0) (List.range a.length) (fun k _=>[(0, .sl .no 1 (es cInt a)),(1, .sl .no 1 (es cInt b)),(9, .sl .no 1 (es cInt a)),(10,i64 a.length),(11,i64 k)]) (fun _ _=>[]::s) _ _ ?_ ?_ (by simp) (by simp) () _ _ (by simp) (by simp)
 ·intro k _ hk
  have hk:k<a.length:=by simpa using hk
  rw[List.getElem_range]
  have e0:a.getD k 0=a[k]:=by simp[List.getD,hk]
  unfold cmpStep
  by_cases h:b.length≤k
  ·have h':(b.length:Int)≤k:=by omega
   simp (disch:=first|omega|assumption|decide +kernel|(simp;done)|(simp;omega)|fail) [hk,h,h',nxt,wk k (by omega)]
  ·have h': ¬(b.length:Int)≤k:=by omega
   have h2:k<b.length:=by omega
   have h3:(k:Int)<b.length:=by omega
   have e1:b.getD k 0=b[k]:=by simp[List.getD,h2]
   rw[e0,e1]
   by_cases h4:a[k]<b[k]
   ·simp (disch:=first|omega|assumption|decide +kernel|(simp;done)|(simp;omega)|fail) [hk,h,h',h2,h3,h4,nxt,wk k (by omega),e0_Compare,cmpI]
   ·by_cases h5:b[k]<a[k]<;>simp (disch:=first|omega|assumption|decide +kernel|(simp;done)|(simp;omega)|fail) [hk,h,h',h2,h3,h4,h5,nxt,wk k (by omega),e0_Compare,cmpI]
 ·intro _ x q h;cases h2:cmpStep a b x<;>simp[h2]at h;subst h;simp
theorem e0_cmpF(a b:List Int)(hb:b.length<4611686018427387904)(ha:a.length<4611686018427387904)(lab s):den T0 121 [.sl .no 1 (es cInt a), .sl .no 1 (es cInt b)] lab s=some (i64 (cmpF a b),s):=by
 have h:=e0_cmp_l a b hb ha
 rw[den_fn u121 _ _ _ rfl]
 simp only[b121,cmpF]
 cases h1:(List.range a.length).findSome? (cmpStep a b)with
 |none=>
   simp only[h1]at h
   by_cases h2:a.length<b.length
   ·have h3:(a.length:Int)<b.length:=by omega
    simp (disch:=first|omega|assumption|decide +kernel|(simp;done)|(simp;omega)|fail) [h,h2,h3]
   ·have h3: ¬(a.length:Int)<b.length:=by omega
    simp (disch:=first|omega|assumption|decide +kernel|(simp;done)|(simp;omega)|fail) [h,h2,h3]
 |some n=>
   simp only[h1]at h
   simp (disch:=first|omega|assumption|decide +kernel|(simp;done)|(simp;omega)|fail) [h]
theorem cmpF_lex: ∀a b,cmpF a b=lexL a b
 |[],b=>by simp[cmpF,lexL]
 |x::a,[]=>by simp[cmpF,lexL,List.range_succ_eq_map,cmpStep]
 |x::a,y::b=>by
   have ih:=cmpF_lex a b
   simp only[lexL,←ih]
   have e: ∀k,cmpStep (x::a) (y::b) (k+1)=cmpStep a b k:=by intro k;simp[cmpStep]
   have e2:cmpStep (x::a) (y::b)∘Nat.succ=cmpStep a b:=by funext k;exact e k
   unfold cmpF
   rw[List.length_cons,List.range_succ_eq_map,List.findSome?_cons,List.findSome?_map,e2]
   simp only[cmpStep,List.length_cons,List.getD_cons_zero]
   by_cases h:x<y
   ·simp[h]
   ·by_cases h':y<x<;>simp[h,h']
def cStory(b:WBook)(g:Nat):List V:= .int .u64 (g:Nat)::vT (trapOf b (bitsL g))
theorem bits_len: ∀g,(bitsL g).length≤5:=fun g=>by
 unfold bitsL
 rw[List.length_map]
 exact Nat.le_trans (List.length_filter_le ..) (by simp)
set_option maxHeartbeats 1000000 in
theorem e0_cmpS(b:WBook)(g h:Nat)(hg:g<32)(hh:h<32)(lab s):den T0 118 [.agg (cStory b g), .agg (cStory b h)] lab s=some (i64 (cmpL (bitsL g) (bitsL h)),s):=by
 have l1:=bits_len g
 have l2:=bits_len h
 have w1:IntKind.i64.wrap (((bitsL g).length:Int)-(bitsL h).length)=((bitsL g).length:Int)-(bitsL h).length:=wi _ (by omega) (by omega)
 have q1:=fun lab s=>e0_list g hg lab s
 have q2:=fun lab s=>e0_list h hh lab s
 have q3:=fun lab s=>e0_cmpF (bitsL g) (bitsL h) (by omega) (by omega) lab s
 unfold cmpL cStory
 rw[←cmpF_lex]
 clear l1 l2
 generalize bitsL g=x at*
 generalize bitsL h=y at*
 generalize trapOf b x=t1 at*
 generalize trapOf b y=t2 at*
 generalize cmpF x y=c at*
 rw[den_fn u118 _ _ _ rfl]
 simp only[b118]
 simp (maxSteps:=1000000) (disch:=first|omega|assumption|decide +kernel|(simp;done)|(simp;omega)|fail) [run_drawnK,orSlow_none,q1,q2,q3,w1,e0_Or]
end Go.Proofs.YtoedpegjoccnlaaGreat

/-
  Watch: the stories in order.
-/
namespace Go.Proofs.YtoedpegjoccnlaaGreat
open Go.Ab
theorem cmpV_story(b:WBook)(g h:Nat)(hg:g<32)(hh:h<32):cmpV T0 true 118 [] (cStory b g) (cStory b h)=some (cmpL (bitsL g) (bitsL h)):=by
 simp[cmpV,e0_cmpS,hg,hh]
theorem story_total(b:WBook)(L:List Nat)(h: ∀g∈L,g<32):Total (cmpV T0 true 118 []) (es (cStory b) L) where
 some x hx y hy:=by
  obtain⟨a,ha,rfl⟩:=List.mem_map.1 hx
  obtain⟨c,hc,rfl⟩:=List.mem_map.1 hy
  exact⟨_,cmpV_story b a c (h a ha) (h c hc)⟩
 irr x hx n hn:=by
  obtain⟨a,ha,rfl⟩:=List.mem_map.1 hx
  rw[cmpV_story b a a (h a ha) (h a ha)]at hn
  cases hn;exact cmpL_irr _
 tr x hx y hy z hz m n k:=by
  obtain⟨a,ha,rfl⟩:=List.mem_map.1 hx
  obtain⟨c,hc,rfl⟩:=List.mem_map.1 hy
  obtain⟨e,he,rfl⟩:=List.mem_map.1 hz
  rw[cmpV_story b a c (h a ha) (h c hc),cmpV_story b c e (h c hc) (h e he),cmpV_story b a e (h a ha) (h e he)]
  rintro⟨⟩ ⟨⟩ ⟨⟩
  exact cmpL_trans _ _ _
 tot x hx y hy m n:=by
  obtain⟨a,ha,rfl⟩:=List.mem_map.1 hx
  obtain⟨c,hc,rfl⟩:=List.mem_map.1 hy
  rw[cmpV_story b a c (h a ha) (h c hc),cmpV_story b c a (h c hc) (h a ha)]
  rintro⟨⟩ ⟨⟩ h1 h2
  rw[bits_inj (h a ha) (h c hc) (cmpL_eq _ _ h1 h2)]
def sortG(b:WBook):List Nat:=(storiesL b).map maskL
theorem sortG_bits {b:WBook}(hT:b.T<6):(sortG b).map bitsL=storiesL b:=by
 unfold sortG
 rw[List.map_map]
 conv=>rhs;rw[←List.map_id (storiesL b)]
 refine List.map_congr_left fun l hl=> ?_
 exact bits_mask l (allL_up hT (story_mem.1 hl).1)
theorem guess_lt {b:WBook}(hT:b.T<6) {g:Nat}(hg:g<2^b.T):g<32:=by
 have:2^b.T≤2^5:=Nat.pow_le_pow_right (by omega) (by omega)
 omega
theorem guessL_lt {b:WBook}(hT:b.T<6) {g:Nat}(hg:g∈guessL b):g<32:=by
 simp only[guessL,List.mem_filter,List.mem_range]at hg
 exact guess_lt hT hg.1
theorem sortG_perm {b:WBook}(hT:b.T<6):(sortG b).Perm (guessL b):=by
 have n2:(guessL b).Nodup:=(List.nodup_range).filter _
 have n1:(sortG b).Nodup:=by
  unfold sortG
  refine List.Pairwise.map _ (R:=fun x y=>cmpL x y<0∧x∈storiesL b∧y∈storiesL b) ?_ ?_
  ·rintro x y ⟨h1,h2,h3⟩ e
   have e2:bitsL (maskL x)=bitsL (maskL y):=by rw[e]
   rw[bits_mask x (allL_up hT (story_mem.1 h2).1),bits_mask y (allL_up hT (story_mem.1 h3).1)]at e2
   subst e2
   exact cmpL_irr _ h1
  ·exact List.Pairwise.imp_of_mem (fun h1 h2 h3=>⟨h3,h1,h2⟩) (stories_sorted b)
 refine(List.perm_ext_iff_of_nodup n1 n2).2 fun g=> ?_
 constructor
 ·intro hg
  obtain⟨l,hl,rfl⟩:=List.mem_map.1 hg
  obtain⟨h,h1,h2⟩:=(guess_mem hT).1 hl
  rw[←h2,mask_bits h (guessL_lt hT h1)]
  exact h1
 ·intro hg
  have hl:=(guess_mem hT).2 ⟨g,hg,rfl⟩
  refine List.mem_map.2 ⟨bitsL g,hl,mask_bits g (guessL_lt hT hg)⟩
theorem story_sortedBy {b:WBook}(hT:b.T<6):SortedBy (cmpV T0 true 118 []) (es (cStory b) (guessL b)) (es (cStory b) (sortG b)):=by
 refine⟨(sortG_perm hT).map _,?_⟩
 unfold es
 rw[List.pairwise_map]
 unfold sortG
 rw[List.pairwise_map]
 refine List.Pairwise.imp_of_mem ?_ (stories_sorted b)
 intro x y hx hy hxy n hn
 have ex:=bits_mask x (allL_up hT (story_mem.1 hx).1)
 have ey:=bits_mask y (allL_up hT (story_mem.1 hy).1)
 rw[cmpV_story b _ _ (guess_lt hT (mask_lt _ hT _ (story_mem.1 hy).1)) (guess_lt hT (mask_lt _ hT _ (story_mem.1 hx).1)),ex,ey]at hn
 cases hn
 intro h
 exact cmpL_irr _ (cmpL_trans _ _ _ hxy h)
theorem sortG_length {b:WBook}(hT:b.T<6):(guessL b).length=(sortG b).length:=(sortG_perm hT).length_eq.symm
theorem sortG_nil {b:WBook}(hT:b.T<6):guessL b=[]↔sortG b=[]:=by
 rw[←List.length_eq_zero_iff,sortG_length hT,List.length_eq_zero_iff]
theorem cStory_ok(b:WBook)(g:Nat):V.elemAll (cStory b g)=true∧(cStory b g).length=5:=by simp[cStory]
theorem e_sortS {b:WBook}(hT:b.T<6)(hne:guessL b≠[])(d:Nat)(lab:Nat)(s:Stk)(hg:sget s d 121=some (.arr 5 (es (cStory b) (guessL b)))):
 den T 117 [.asl d 121 5 (guessL b).length 0 (guessL b).length, .fn 118 [] []] lab s=some (.tup [],sput s d 121 (.arr 5 (es (cStory b) (sortG b)))):=by
 rw[den_prim t117]
 have hlen:0<(guessL b).length:=List.length_pos_iff.2 hne
 have hlt:(guessL b).length≤2^b.T:=by
  have:=List.length_filter_le (fun g=>storyB b (bitsL g)) (List.range (2^b.T))
  simpa [guessL]using this
 have hp:2^b.T≤2^5:=Nat.pow_le_pow_right (by omega) (by omega)
 have hq:sortQ [.asl d 121 5 (guessL b).length 0 (guessL b).length, .fn 118 [] []] lab s=sortP [.asl d 121 5 (guessL b).length 0 (guessL b).length, .fn 118 [] []] lab s:=by
  unfold sortQ
  generalize (guessL b).length=n at*
  split
  ·rename_i h
   simp at h;omega
  ·rfl
 rw[hq]
 unfold sortP
 rw[sortFPK_eq]
 have:=sortFP_eq (T0:=T0) (agg:=true) (d:=d) (l:=121) (sz:=5) (n:=(guessL b).length) (g:=118) (cap:=[]) (lab:=lab) (s:=s)
  (x:= .arr 5 (es (cStory b) (guessL b))) (es:=es (cStory b) (guessL b)) (r:=es (cStory b) (sortG b)) hg rfl (by simp) (fun h=>by cases h) (by simpa using hne) (by simp;omega)
  (by intro x hx;obtain⟨a,_,rfl⟩:=List.mem_map.1 hx;exact(cStory_ok b a).1) rfl (story_total b _ fun g hg=>guessL_lt hT hg) (story_sortedBy hT)
 rw[this]
 rfl
end Go.Proofs.YtoedpegjoccnlaaGreat

/-
  Watch: a guess's trap (not built yet).
-/
namespace Go.Proofs.YtoedpegjoccnlaaGreat
open Go.Ab
theorem keepW_congr {ws:List CWord} {p q:Nat→Bool}(h: ∀k,k<ws.length→p k=q k):keepW ws p=keepW ws q:=by
 unfold keepW
 congr 1
 refine List.filter_congr fun k hk=> ?_
 rw[h k (List.mem_range.1 hk)]
theorem bits_contains(g:Nat)(n:Nat)(hn:n<5):(bitsL g).contains (n:Int)=g.testBit n:=by
 rw[Bool.eq_iff_iff,List.contains_eq_mem,decide_eq_true_eq]
 simp only[bitsL,List.mem_map,List.mem_filter,List.mem_range]
 constructor
 ·rintro⟨k,⟨_,h⟩,e⟩
  rw[show n=k by omega];exact h
 ·intro h;exact⟨n,⟨hn,h⟩,rfl⟩
theorem keepW_bits {b:WBook}(h:bookB b=true)(g:Nat): {b.trap with words:=keepW b.trap.words fun k=>g.testBit (b.trap.words.getD k default).time.toNat}=trapOf b (bitsL g):=by
 rw[←keepW_trap b (bitsL g)]
 refine congrArg (fun ws=>({b.trap with words:=ws}:CTrap)) (keepW_congr fun k hk=> ?_)
 have hok:=bookB_ok h
 have hw:=wordOk_iff.1 (hok.trap.word _ (List.getElem_mem hk))
 have ht:=hok.trap.tt
 have e:b.trap.words.getD k default=b.trap.words[k]:=by simp[List.getD,hk]
 rw[e]
 have:=bits_contains g b.trap.words[k].time.toNat (by omega)
 rw[←this]
 congr 1
 omega
theorem e_read1(b:WBook)(g:Nat)(hg:g<32)(d:Nat)(S:Stk)(h1:sget S d 128=some (.cell [.int .u64 (g:Nat)]))(h2:sget S d 32=some (.cell (vB b)))(hd: ¬d=S.length)(k:Nat)(hk:k<b.trap.words.length)(ht:0≤b.trap.words[k].time∧b.trap.words[k].time<5)(lab):
 den T 114 [i64 k, .ptr d 128 0, .ptr d 32 0] lab S=some (.bool (g.testBit (b.trap.words.getD k default).time.toNat),S):=by
 have e:b.trap.words.getD k default=b.trap.words[k]:=by simp[List.getD,hk]
 rw[e]
 generalize hw:b.trap.words[k]=w at*
 obtain⟨w0,w1,w2,w3⟩:=w
 dsimp only at ht⊢
 obtain⟨n,rfl⟩: ∃n:Nat,w0=n:=⟨w0.toNat,by omega⟩
 have hh:=fun lab s=>e_gHas g n hg (by omega) lab s
 simp only[Int.toNat_natCast]
 rw[den_fn t114 _ _ _ rfl]
 simp only[b114]
 simp (maxSteps:=1000000) (disch:=first|omega|assumption|decide +kernel|(simp;done)|(simp;omega)|fail) [run_drawnK,orSlow_none,hd,h1,h2,hk,hw,hh]
theorem oneT_truth {t:CTrap}(h:trapB t=true):decide (openT t true=0)=isOneB t:=by
 rw[openT_of h]
 cases isOneB t<;>simp
def storyF(b:WBook)(a:List Nat)(g:Nat):List Nat:=if storyB b (bitsL g)=true then a ++[g]else a
theorem storyF_fold(b:WBook): ∀(l a:List Nat),l.foldl (storyF b) a=a ++l.filter fun g=>storyB b (bitsL g)
 |[],a=>by simp
 |g::l,a=>by
   rw[List.foldl_cons,storyF_fold b l,List.filter_cons]
   unfold storyF
   cases storyB b (bitsL g)<;>simp
def rdF(b:WBook)(d:Nat)(a:List Nat):Ab.Loc:=[(32, .cell (vB b)),(304, .cell (vK b (.asl d 121 5 a.length 0 a.length))),(121, .arr 5 (es (cStory b) a))]
theorem wu {k:Nat}(h:k<1000):IntKind.u64.wrap ((k:Int)+1)=((k+1:Nat):Int):=by
 have:IntKind.u64.wrap ((k:Int)+1)=((k:Int)+1)%18446744073709551616:=rfl
 rw[this];omega
end Go.Proofs.YtoedpegjoccnlaaGreat

/-
  Watch: the stories one by one (not built yet).
-/
namespace Go.Proofs.YtoedpegjoccnlaaGreat
open Go.Ab
@[simp] theorem map_cStory_d(b:WBook)(d keep l):(es (cStory b) l).map (V.mapAll (dropR d keep))=es (cStory b) l:=es_map _ _ (fun _=>by simp[cStory]) _
@[simp] theorem map_cStory_f(b:WBook)(d k z e l):(es (cStory b) l).map (V.mapAll (frzR d k z e))=es (cStory b) l:=es_map _ _ (fun _=>by simp[cStory]) _
@[simp] theorem map_cStory_r(b:WBook)(own d loc ls d' lab l):(es (cStory b) l).map (V.mapAll (renR own d loc ls d' lab))=es (cStory b) l:=es_map _ _ (fun _=>by cases own<;>simp[cStory]<;>rfl) _
@[simp] theorem strip_cStory(b:WBook)(l):(es (cStory b) l).map V.stripAll=es (cStory b) l:=es_strip _ (fun _=>by simp[cStory]) _
@[simp] theorem refs_cStory(b:WBook)(own:Bool)(d:Nat)(l):(es (cStory b) l).flatMap (V.refsAll own d)=[]:=es_refs _ _ _ (fun _=>by cases own<;>simp[cStory,V.refs,Cap.refs]) _
@[simp] theorem elems_cStory(b:WBook)(l):elemsOk (es (cStory b) l) 5=true:=elemsOk_es _ _ (fun _=>by simp[cStory]) _
def addR:AC:=(.region true (spl [⟨(some 36), .mv (.t 7),none,[],[121,888888]⟩,⟨(some 37), .mv (.t 7),none,[],[]⟩,⟨(some 38), .nilck (.t 37),none,[1],[]⟩,⟨(some 39), .faddr 7 (.t 38),none,[2,1],[]⟩,⟨(some 40), .load none (.t 39),none,[3,2,1],[]⟩,⟨(some 41), .load none (.t 8),none,[],[]⟩,⟨(some 42), .load (some 4) (.t 9),none,[],[]⟩,⟨(some 43), .build [(.int .u64 0),(i64 0),(i64 0),(.sl .full 1 []),(.sl .full 4 [])] [(0,1,(.t 41)),(1,4,(.t 42))],none,[5,6],[]⟩,⟨(some 44), .lit [(.int .u64 0),(i64 0),(i64 0),(.sl .full 1 []),(.sl .full 4 [])] 1 [(0,(.t 43))],none,[7,5,6],[]⟩,⟨(some 45), .app 5 72 (.t 40) (.t 44),none,[4,8,3,2,1,7,5,6],[]⟩] [⟨(some 46), .nilck (.t 36),none,[0,9,4,8,3,2,1,7,5,6],[]⟩,⟨(some 47), .faddr 7 (.t 46),none,[10,0,9,4,8,3,2,1,7,5,6],[]⟩,⟨none, .store 1 (.t 47) (.t 45),none,[11,10,0,9,4,8,3,2,1,7,5,6],[]⟩]) [2,7,23,24])
theorem d_read_l0:d90l0= .seq (.region false [⟨(some 25), .bin .lss (.t 24) (.t 23),none,[],[]⟩] [2,7,23,24,25]) (.seq (.cond (.t 25) ( .skip) ( .exit 0)) (.seq (.block 1 (.seq (.region false [⟨(some 26), .mv (.t 24),none,[],[]⟩,⟨(some 8), .alloc [(.int .u64 0)],none,[],[]⟩,⟨none, .store 1 (.t 8) (.t 26),none,[],[]⟩] [2,7,8,23,24]) (.seq (.seq ( .region false [⟨(some 27), .mv (.t 7),none,[],[]⟩,⟨(some 28), .load none (.t 8),none,[],[]⟩,⟨(some 29), .call 112 [(.t 27),(.t 28)],none,[],[]⟩,⟨(some 30), .un .not (.t 29),none,[],[]⟩] [2,7,8,23,24,30]) ( .cond (.t 30) ( .exit 1) ( .skip))) (.seq (.region false [⟨(some 31), .mv (.t 7),none,[],[]⟩,⟨(some 32), .mkfn 114 [] [(.t 8),(.t 2)],none,[],[]⟩,⟨(some 33), .call 113 [(.t 31),(.t 32)],none,[],[]⟩,⟨(some 9), .alloc [(i64 0),(i64 0),(.sl .full 1 []),(.sl .full 4 [])],none,[],[]⟩,⟨none, .store 4 (.t 9) (.t 33),none,[],[]⟩] [2,7,8,9,23,24]) (.seq (.region false [⟨(some 34), .load (some 4) (.t 9),none,[],[]⟩,⟨(some 35), .call 116 [(.t 34)],none,[],[]⟩] [2,7,8,9,23,24,35]) (.cond (.t 35) addR .skip)))))) (.region false [⟨(some 48), .bin .add (.t 24) (.c (.int .u64 1)),none,[],[]⟩,⟨(some 24), .mv (.t 48),none,[],[]⟩] [2,7,23,24]))):=rfl
set_option maxHeartbeats 4000000 in
theorem e_addR(b:WBook)(s:Stk)(a:List Nat)(k:Nat)(t2:CTrap)(N:Nat)(e0:es (cStory b) a ++[[.int .u64 (k:Nat),i64 t2.chambers,i64 t2.times, .sl .no 1 (es cInts t2.opn), .sl .no 4 (es cWord t2.words)]]=es (cStory b) (a ++[k]))(q1:(a.length+1)*72≤140737488355328)(q2:a.length+1<140737488355328):
 Run T addR [(2, .ptr s.length 32 0),(7, .ptr s.length 304 0),(8, .ptr s.length 128 0),(9, .ptr s.length 144 0),(23, .int .u64 (N:Nat)),(24, .int .u64 (k:Nat)),(35, .bool true)] ([(32, .cell (vB b)),(304, .cell (vK b (.asl s.length 121 5 a.length 0 a.length))),(121, .arr 5 (es (cStory b) a)),(128, .cell [.int .u64 (k:Nat)]),(144, .cell (vT t2))]::s)=
  some (.normal,[(2, .ptr s.length 32 0),(7, .ptr s.length 304 0),(23, .int .u64 (N:Nat)),(24, .int .u64 (k:Nat))],[(32, .cell (vB b)),(304, .cell (vK b (.asl s.length 121 5 (a ++[k]).length 0 (a ++[k]).length))),(121, .arr 5 (es (cStory b) (a ++[k]))),(128, .cell [.int .u64 (k:Nat)]),(144, .cell (vT t2))]::s):=by
 unfold addR
 simp (maxSteps:=6000000) (disch:=first|omega|assumption|decide +kernel|(simp;done)|(simp;omega)|fail) [run_drawnK,q1,q2,appDA_one]
 exact e0
end Go.Proofs.YtoedpegjoccnlaaGreat

/-
  Watch: the stories one by one, whole (not built yet).
-/
namespace Go.Proofs.YtoedpegjoccnlaaGreat
open Go.Ab
set_option maxHeartbeats 4000000 in
theorem e_read_l(b:WBook)(hB:bookB b=true)(hc:CopyB b)(s:Stk):
 Run T b90l0 [(2, .ptr s.length 32 0),(7, .ptr s.length 304 0),(23, .int .u64 ((2^b.T:Nat):Int)),(24, .int .u64 0)] (rdF b s.length []::s)=
  some (.exit 0,[(2, .ptr s.length 32 0),(7, .ptr s.length 304 0),(23, .int .u64 ((2^b.T:Nat):Int)),(24, .int .u64 ((2^b.T:Nat):Int)),(25, .bool false)],rdF b s.length (guessL b)::s):=by
 have hok:=bookB_ok hB
 have ht:=bookB_trap hB
 have hT:=hok.t6
 have hp:2^b.T≤2^5:=Nat.pow_le_pow_right (by omega) (by omega)
 have key:=loop_fold (T:=T) (live:=[2,7,23,24]) (keep:=[32,121,304]) (b:=d90l0) (List.range (2^b.T)) (fun k (a:List Nat)=>a.length≤k) (storyF b)
  (fun k _=>[(2, .ptr s.length 32 0),(7, .ptr s.length 304 0),(23, .int .u64 ((2^b.T:Nat):Int)),(24, .int .u64 (k:Nat))]) (fun _ a=>rdF b s.length a::s)
  (fun a=>(.exit 0,[(2, .ptr s.length 32 0),(7, .ptr s.length 304 0),(23, .int .u64 ((2^b.T:Nat):Int)),(24, .int .u64 ((2^b.T:Nat):Int)),(25, .bool false)],rdF b s.length a::s))
  (by simp) ?_ ?_ ?_ [] (by simp) [(2, .ptr s.length 32 0),(7, .ptr s.length 304 0),(23, .int .u64 ((2^b.T:Nat):Int)),(24, .int .u64 0)] (rdF b s.length []::s) (by simp) (by simp[rdF])
 ·rw[storyF_fold,List.nil_append]at key
  exact key
 ·intro k a hk hi
  simp only[List.length_range]at hk
  simp only[List.getElem_range]
  have hk32:k<32:=by omega
  have hs5:=allL_up hT hok.sober
  have eg:=canG_eq (g:=k) hok.run.1 hs5 hk32
  have h1:=fun(F:Ab.Loc) (hF:F.get 304=some (.cell (vK b (.asl s.length 121 5 a.length 0 a.length)))) lab=>e_canBe b (.asl s.length 121 5 a.length 0 a.length) k hk32 hs5 s.length 304 (F::s) (by simp) (by simp[hF]) lab
  rw[eg]at h1
  have hwt: ∀j (hj:j<b.trap.words.length),0≤b.trap.words[j].time∧b.trap.words[j].time<5:=fun j hj=>by
   have hw:=wordOk_iff.1 (hok.trap.word _ (List.getElem_mem hj))
   have:=hok.trap.tt
   omega
  have h2:=fun(F:Ab.Loc) (hF:F.get 304=some (.cell (vK b (.asl s.length 121 5 a.length 0 a.length)))) (hF1:F.get 128=some (.cell [.int .u64 (k:Nat)])) (hF2:F.get 32=some (.cell (vB b))) lab=>
   e_without b hc.trap.words (.asl s.length 121 5 a.length 0 a.length) s.length 304 114 [.ptr s.length 128 0, .ptr s.length 32 0] (fun j=>k.testBit (b.trap.words.getD j default).time.toNat) (F::s) (by simp) (by simp[hF]) (by simp) (by intro keep;simp)
    (fun j hj L lab=>e_read1 b k hk32 s.length (L::F::s) (by simp[hF1]) (by simp[hF2]) (by simp;omega) j hj (hwt j hj) lab) lab
  rw[keepW_bits hB k]at h2
  have hsh:ShortT (trapOf b (bitsL k)):=⟨by have:=hc.trap.opn;show b.trap.opn.length<_;omega,by have:=hc.trap.words;have:=List.length_filter_le (fun w:CWord=> !(bitsL k).contains w.time) b.trap.words;show(b.trap.words.filter _).length<_;omega,fun l hl=>trapOf_open hB _ l hl⟩
  have h3:=fun lab s=>e_hasTruth (trapOf b (bitsL k)) hsh lab s
  rw[oneT_truth (trapB_less ht (bitsL k))]at h3
  have e0:es (cStory b) a ++[.int .u64 (k:Nat)::vT (trapOf b (bitsL k))]=es (cStory b) (a ++[k]):=by simp[es,cStory]
  have hk2:(k:Int)<((2^b.T:Nat):Int):=by omega
  have hw:=wu (k:=k) (by omega)
  have q1:(a.length+1)*72≤140737488355328:=by omega
  have q2:a.length+1<140737488355328:=by omega
  unfold storyF storyB
  clear eg hwt hsh hp
  rw[d_read_l0]
  generalize isOneB (trapOf b (bitsL k))=o at*
  generalize canB b (bitsL k)=c at*
  generalize trapOf b (bitsL k)=t2 at*
  generalize 2^b.T=N at*
  cases c
  ·simp (maxSteps:=1000000) (disch:=first|omega|assumption|decide +kernel|(simp;done)|(simp;omega)|fail) [rdF,hk2,h1,hw]
  ·cases o
   ·simp (maxSteps:=1000000) (disch:=first|omega|assumption|decide +kernel|(simp;done)|(simp;omega)|fail) [rdF,hk2,h1,h2,h3,hw]
   ·have h4:=e_addR b s a k t2 N e0 q1 q2
    simp (maxSteps:=1000000) (disch:=first|omega|assumption|decide +kernel|(simp;done)|(simp;omega)|fail) [rdF,hk2,h1,h2,h3,hw,h4]
 ·intro k a hk hi
  unfold storyF
  split<;>(try simp only[List.length_append,List.length_cons,List.length_nil])<;>omega
 ·intro a hi
  simp only[List.length_range]
  generalize 2^b.T=N at*
  simp[rdF]
end Go.Proofs.YtoedpegjoccnlaaGreat

/-
  Watch: the sort of no stories; the sort, whole (not built yet).
-/
namespace Go.Proofs.YtoedpegjoccnlaaGreat
open Go.Ab
set_option maxRecDepth 100000 in
theorem v_Len64(lab s):den TE 163 [.int .u64 0] lab s=some (i64 0,s):=by
 rw[den_fn v163 _ _ _ rfl]
 delta b163
 have w8:IntKind.u8.wrap 0=0:=by decide
 have w0:IntKind.i64.wrap 0=0:=by decide
 simp (maxSteps:=1000000) (disch:=first|omega|assumption|decide +kernel|(simp;done)|(simp;omega)|fail) [w8,w0]
theorem v_Len(lab s):den TE 143 [.int .u64 0] lab s=some (i64 0,s):=by
 rw[den_fn v143 _ _ _ rfl]
 simp only[b143]
 simp (maxSteps:=1000000) (disch:=first|omega|assumption|decide +kernel|(simp;done)|(simp;omega)|fail) [v_Len64]
theorem v_ins(d:Nat)(S:Stk)(hd:d<S.length)(lab):den TE 154 [.asl d 121 5 0 0 0,i64 0,i64 0, .fn 118 [] []] lab S=some (.tup [],S):=by
 have h1: ¬d=S.length:=by omega
 rw[den_fn v154 _ _ _ rfl]
 simp only[b154,b154l0]
 simp (maxSteps:=1000000) (disch:=first|omega|assumption|decide +kernel|(simp;done)|(simp;omega)|fail) [run_loop,h1,wi]
theorem v_pdq(d:Nat)(S:Stk)(hd:d<S.length)(lab):den TE 142 [.asl d 121 5 0 0 0,i64 0,i64 0,i64 0, .fn 118 [] []] lab S=some (.tup [],S):=by
 have h1: ¬d=S.length:=by omega
 have h2:=fun(F:Ab.Loc) lab=>v_ins d (F::S) (by simp;omega) lab
 rw[den_fn v142 _ _ _ rfl]
 simp only[b142,b142l0]
 simp (maxSteps:=1000000) (disch:=first|omega|assumption|decide +kernel|(simp;done)|(simp;omega)|fail) [run_loop,h1,h2,wi]
theorem v_sort(d:Nat)(S:Stk)(hd:d<S.length)(hs:sget S d 121=some (.arr 5 []))(lab):den TE 117 [.asl d 121 5 0 0 0, .fn 118 [] []] lab S=some (.tup [],S):=by
 have h1: ¬d=S.length:=by omega
 have h2:=fun(F:Ab.Loc) lab=>v_pdq d (F::S) (by simp;omega) lab
 have w0:IntKind.u64.wrap 0=0:=by decide
 rw[den_fn v117 _ _ _ rfl]
 simp only[b117]
 simp (maxSteps:=1000000) (disch:=first|omega|assumption|decide +kernel|(simp;done)|(simp;omega)|fail) [h1,h2,hs,w0,v_Len]
theorem e_sortR {b:WBook}(hT:b.T<6)(lab:Nat)(s:Stk):
 den T 117 [.asl s.length 121 5 (guessL b).length 0 (guessL b).length, .fn 118 [] []] lab (rdF b s.length (guessL b)::s)=some (.tup [],rdF b s.length (sortG b)::s):=by
 by_cases h:guessL b=[]
 ·have h2:=(sortG_nil hT).1 h
  rw[h,h2]
  rw[den_prim t117]
  have:=v_sort s.length (rdF b s.length []::s) (by simp) (by simp[rdF]) lab
  unfold sortQ
  simpa using this
 ·have:=e_sortS hT h s.length lab (rdF b s.length (guessL b)::s) (by simp[rdF])
  rw[this]
  have e:=sortG_length hT
  simp[rdF,e]
end Go.Proofs.YtoedpegjoccnlaaGreat

/-
  Watch: read, told (not built yet).
-/
namespace Go.Proofs.YtoedpegjoccnlaaGreat
open Go.Ab
abbrev stG(b:WBook):V:= .sl .no 5 (es (cStory b) (sortG b))
theorem pow_u64: ∀T,T<6→IntKind.u64.wrap (2^min T IntKind.u64.bits)=((2^T:Nat):Int):=by decide +kernel
set_option maxHeartbeats 2000000 in
theorem e_read_no(b:WBook)(hc:CopyB b)(is:Bool)(h:ask11 b is≠0)(lab s):den T 90 [.agg (vB b), .bool is] lab s=some (.tup [.nilp,i64 (ask11 b is)],s):=by
 have h1:=fun lab s=>e_CheckW b hc lab s
 unfold ask11 at h⊢
 rw[den_fn t90 _ _ _ rfl]
 simp only[b90]
 cases c:bookB b
 ·simp (maxSteps:=1000000) (disch:=first|omega|assumption|decide +kernel|(simp;done)|(simp;omega)|fail) [h1,c]
 ·cases is
  ·simp (maxSteps:=1000000) (disch:=first|omega|assumption|decide +kernel|(simp;done)|(simp;omega)|fail) [h1,c]
  ·rw[c]at h;simp at h
set_option maxHeartbeats 4000000 in
theorem e_read(b:WBook)(hB:bookB b=true)(hc:CopyB b)(loc:Ab.Loc)(s:Stk)(lab)(k0:loc.get lab=none):
 den T 90 [.agg (vB b), .bool true] lab (loc::s)=some (.tup [.ptr s.length lab 0,i64 0],loc.put lab (.cell (vK b (stG b)))::s):=by
 have hok:=bookB_ok hB
 have hT:=hok.t6
 have htt:=hok.trap.tt
 have h1:=fun lab s=>e_CheckW b hc lab s
 have h2:=e_read_l b hB hc (loc::s)
 have h3:=fun lab=>e_sortR hT lab (loc::s)
 have eT:b.trap.times=((b.T:Nat):Int):=by have:b.T=b.trap.times.toNat:=rfl;omega
 have w1:=pow_u64 b.T hT
 have hn: ¬((b.T:Nat):Int)<0:=by omega
 rw[hB]at h1
 simp only[rdF,List.length_cons,es_nil,List.length_nil]at h2 h3
 rw[←eT]at hn
 unfold stG
 generalize guessL b=A at*
 generalize sortG b=B at*
 generalize (2:Nat)^b.T=N at*
 have e9:min b.trap.times.toNat IntKind.u64.bits=min b.T IntKind.u64.bits:=rfl
 rw[den_fn t90 _ _ _ rfl]
 simp only[b90]
 simp (maxSteps:=6000000) (disch:=first|omega|assumption|decide +kernel|(simp;done)|(simp;omega)|fail) [h1,h2,h3,hn,e9,w1,k0]
end Go.Proofs.YtoedpegjoccnlaaGreat

/-
  Watch: told (not built yet).
-/
namespace Go.Proofs.YtoedpegjoccnlaaGreat
open Go.Ab
theorem sortG_nil2(b:WBook):sortG b=[]↔storiesL b=[]:=by unfold sortG;exact List.map_eq_nil_iff
theorem sortG_len2(b:WBook):(sortG b).length=(storiesL b).length:=by unfold sortG;exact List.length_map ..
set_option maxHeartbeats 4000000 in
theorem e_told_no(b:WBook)(hc:CopyB b)(is:Bool)(h:open11 b is≠0)(lab s):den T 67 [.agg (vB b), .bool is] lab s=some (.tup [.nilp,i64 (open11 b is)],s):=by
 unfold open11 at h⊢
 by_cases h0:ask11 b is=0
 ·obtain⟨hB,rfl⟩:=ask11_ok h0
  rw[if_pos h0]at h⊢
  have hn:storiesL b=[]:=by by_cases e:storiesL b=[];exact e;rw[if_neg e]at h;exact absurd rfl h
  have h2:=fun(F:Ab.Loc) lab k0=>e_read b hB hc F s lab k0
  unfold stG at h2
  rw[(sortG_nil2 b).2 hn]at h2
  rw[if_pos hn]
  rw[den_fn t67 _ _ _ rfl]
  simp only[b67]
  simp (maxSteps:=6000000) (disch:=first|omega|assumption|decide +kernel|(simp;done)|(simp;omega)|fail) [h2]
 ·have h1:=fun lab s=>e_read_no b hc is h0 lab s
  rw[if_neg h0]at h⊢
  rw[den_fn t67 _ _ _ rfl]
  simp only[b67]
  simp (maxSteps:=6000000) (disch:=first|omega|assumption|decide +kernel|(simp;done)|(simp;omega)|fail) [h1,h0]
set_option maxHeartbeats 4000000 in
theorem e_told(b:WBook)(hc:CopyB b)(is:Bool)(h:open11 b is=0)(loc:Ab.Loc)(s:Stk)(lab)(k0:loc.get lab=none):
 den T 67 [.agg (vB b), .bool is] lab (loc::s)=some (.tup [.ptr s.length lab 0,i64 0],loc.put lab (.cell (vK b (stG b)))::s):=by
 obtain⟨hB,rfl,hn⟩:=open11_ok h
 have h2:=fun(F:Ab.Loc) lab k0=>e_read b hB hc F (loc::s) lab k0
 have hne: ¬(sortG b).length=0:=by rw[sortG_len2];simpa using hn
 unfold stG at h2⊢
 generalize sortG b=G at*
 rw[den_fn t67 _ _ _ rfl]
 simp only[b67]
 simp (maxSteps:=6000000) (disch:=first|omega|assumption|decide +kernel|(simp;done)|(simp;omega)|fail) [h2,hne,k0]
end Go.Proofs.YtoedpegjoccnlaaGreat

/-
  Watch: Good (not built yet).
-/
namespace Go.Proofs.YtoedpegjoccnlaaGreat
open Go.Ab
end Go.Proofs.YtoedpegjoccnlaaGreat

/-
  Watch: Stories, Least, many, Drunk (not built yet).
-/
namespace Go.Proofs.YtoedpegjoccnlaaGreat
open Go.Ab
end Go.Proofs.YtoedpegjoccnlaaGreat

/-
  Watch: Must (not built yet).
-/
namespace Go.Proofs.YtoedpegjoccnlaaGreat
open Go.Ab
end Go.Proofs.YtoedpegjoccnlaaGreat

/-
  Watch: Ask (not built yet).
-/
namespace Go.Proofs.YtoedpegjoccnlaaGreat
open Go.Ab
end Go.Proofs.YtoedpegjoccnlaaGreat

/-
  Watch: Lies (not built yet).
-/
namespace Go.Proofs.YtoedpegjoccnlaaGreat
open Go.Ab
theorem short_trapOf {b:WBook}(hB:bookB b=true)(hc:CopyB b)(l:List Int):ShortT (trapOf b l):=⟨by have:=hc.trap.opn;show b.trap.opn.length<_;omega,by have:=hc.trap.words;have:=List.length_filter_le (fun w:CWord=> !l.contains w.time) b.trap.words;show(b.trap.words.filter _).length<_;omega,fun x hx=>trapOf_open hB _ x hx⟩
end Go.Proofs.YtoedpegjoccnlaaGreat

/-
  Watch: span (not built yet).
-/
namespace Go.Proofs.YtoedpegjoccnlaaGreat
open Go.Ab
def spnF(fx:Nat→CSp)(G:List Nat)(a:CSp)(k:Nat):CSp:=hullS (if k=0 then fx (G.getD k 0)else a) (fx (G.getD k 0))
theorem spn_fold(f:List Int→CSp)(G:List Nat)(hne:G≠[]):(List.range G.length).foldl (spnF (fun g=>f (bitsL g)) G) ⟨0,0⟩=hullF f (G.map bitsL):=by
 match G,hne with
 |g::G,_=>
   rw[List.length_cons,List.range_succ_eq_map,List.foldl_cons,List.foldl_map]
   have e0:spnF (fun g=>f (bitsL g)) (g::G) ⟨0,0⟩ 0=hullS (f (bitsL g)) (f (bitsL g)):=by simp[spnF]
   rw[e0,List.map_cons]
   show _=(bitsL g::G.map bitsL).foldl (fun a l=>hullS a (f l)) (f (bitsL g))
   rw[List.foldl_cons]
   have key: ∀(L:List Nat) (P:List Nat) (a:CSp),(∀k,k<L.length→(g::G).getD (P.length+1+k) 0=L.getD k 0)→(List.range L.length).foldl (fun x y=>spnF (fun g=>f (bitsL g)) (g::G) x (P.length+(y+1))) a=(L.map bitsL).foldl (fun a l=>hullS a (f l)) a:=by
    intro L
    induction L with
    |nil=>intro P a _;rfl
    |cons x L ih=>
      intro P a h
      have h0:=h 0 (by simp)
      rw[List.length_cons,List.range_succ_eq_map,List.foldl_cons,List.foldl_map,List.map_cons,List.foldl_cons]
      have e1:spnF (fun g=>f (bitsL g)) (g::G) a (P.length+(0+1))=hullS a (f (bitsL x)):=by
       unfold spnF
       rw[if_neg (by omega),show P.length+(0+1)=P.length+1+0 by omega,h0]
       rfl
      rw[e1]
      have:=ih (x::P) (hullS a (f (bitsL x))) (fun k hk=>by
       have:=h (k+1) (by simp;omega)
       rw[List.length_cons,show P.length+1+1+k=P.length+1+(k+1)by omega,this]
       simp)
      rw[←this]
      congr 1
      funext x y
      congr 1
      simp only[List.length_cons,Nat.succ_eq_add_one];omega
   have:=key G [] (hullS (f (bitsL g)) (f (bitsL g))) (fun k hk=>by
    have e:([]:List Nat).length+1+k=k+1:=by simp;omega
    rw[e];simp)
   rw[←this]
   congr 1
   funext x y
   congr 1
   simp
set_option maxHeartbeats 4000000 in
theorem e_span_l(b:WBook)(G:List Nat)(hG:G.length<1000000)(f:Nat)(cap:List V)(fx:Nat→CSp)(ex:Nat→Int)(s:Stk)(hc1:V.stripAll cap=cap)(hc2: ∀keep,V.mapAll (dropR s.length keep) cap=cap)
 (hF: ∀g,g∈G→ ∀(L:Ab.Loc) lab,den T f (.agg (vT (trapOf b (bitsL g)))::cap) lab (L::s)=some (.tup [.agg [i64 (fx g).lo,i64 (fx g).hi],i64 (ex g)],L::s)):
 Run T b70l0 [(1, .fn f [] cap),(4, .ptr s.length 64 0),(5, .ptr s.length 80 0),(13, .sl .no 5 (es (cStory b) G)),(14,i64 G.length),(15,i64 0)] ([(64, .cell [i64 0,i64 0]),(80, .cell [i64 0,i64 0])]::s)=
  some (.exit 0,[(1, .fn f [] cap),(4, .ptr s.length 64 0),(5, .ptr s.length 80 0),(13, .sl .no 5 (es (cStory b) G)),(14,i64 G.length),(15,i64 G.length),(16, .bool false)],[(64, .cell [i64 0,i64 0]),(80, .cell [i64 ((List.range G.length).foldl (spnF fx G) ⟨0,0⟩).lo,i64 ((List.range G.length).foldl (spnF fx G) ⟨0,0⟩).hi])]::s):=by
 have key:=loop_fold (T:=T) (live:=[1,4,5,13,14,15]) (keep:=[64,80]) (b:=d70l0) (List.range G.length) (fun _ _=>True) (spnF fx G)
  (fun k _=>[(1, .fn f [] cap),(4, .ptr s.length 64 0),(5, .ptr s.length 80 0),(13, .sl .no 5 (es (cStory b) G)),(14,i64 G.length),(15,i64 (k:Nat))]) (fun _ a=>[(64, .cell [i64 0,i64 0]),(80, .cell [i64 a.lo,i64 a.hi])]::s)
  (fun a=>(.exit 0,[(1, .fn f [] cap),(4, .ptr s.length 64 0),(5, .ptr s.length 80 0),(13, .sl .no 5 (es (cStory b) G)),(14,i64 G.length),(15,i64 G.length),(16, .bool false)],[(64, .cell [i64 0,i64 0]),(80, .cell [i64 a.lo,i64 a.hi])]::s))
  (by simp) ?_ ?_ ?_ ⟨0,0⟩ trivial [(1, .fn f [] cap),(4, .ptr s.length 64 0),(5, .ptr s.length 80 0),(13, .sl .no 5 (es (cStory b) G)),(14,i64 G.length),(15,i64 0)] ([(64, .cell [i64 0,i64 0]),(80, .cell [i64 0,i64 0])]::s) (by simp[hc2]) (by simp)
 ·exact key
 ·intro k a hk hi
  simp only[List.length_range]at hk
  simp only[List.getElem_range]
  have hk2:(k:Int)<G.length:=by omega
  have eg:G.getD k 0=G[k]:=by simp[List.getD,hk]
  have h1:=hF G[k] (List.getElem_mem hk)
  have hx:cStory b G[k]= .int .u64 (G[k]:Nat)::vT (trapOf b (bitsL G[k])):=rfl
  unfold spnF hullS
  rw[eg]
  generalize fx G[k]=x at*
  generalize ex G[k]=e at*
  generalize trapOf b (bitsL G[k])=t2 at*
  generalize hw:G[k]=w at*
  obtain⟨x1,x2⟩:=x
  obtain⟨a1,a2⟩:=a
  dsimp only at*
  by_cases h0:k=0
  ·subst h0
   simp (maxSteps:=1000000) (disch:=first|omega|assumption|decide +kernel|(simp;done)|(simp;omega)|fail) [hk,hk2,hw,hx,hc1,hc2,h1,wi]
  ·have h0': ¬(k:Int)=0:=by omega
   simp (maxSteps:=1000000) (disch:=first|omega|assumption|decide +kernel|(simp;done)|(simp;omega)|fail) [hk,hk2,hw,hx,hc1,hc2,h1,h0,h0',wk k (by omega)]
 ·intro k a hk hi
  trivial
 ·intro a hi
  simp[hc2]
theorem e_span {b:WBook}(hB:bookB b=true)(hne:storiesL b≠[])(d l f:Nat)(cap:List V)(fl:List Int→CSp)(ex:Nat→Int)(s:Stk)(hd: ¬d=s.length)(h:sget s d l=some (.cell (vK b (stG b))))(hc1:V.stripAll cap=cap)(hc2: ∀keep,V.mapAll (dropR s.length keep) cap=cap)
 (hF: ∀g,bitsL g∈storiesL b→ ∀(L:Ab.Loc) lab,den T f (.agg (vT (trapOf b (bitsL g)))::cap) lab (L::s)=some (.tup [.agg [i64 (fl (bitsL g)).lo,i64 (fl (bitsL g)).hi],i64 (ex g)],L::s)) (lab):
 den T 70 [.ptr d l 0, .fn f [] cap] lab s=some (.agg [i64 (hullF fl (storiesL b)).lo,i64 (hullF fl (storiesL b)).hi],s):=by
 have hT:=(bookB_ok hB).t6
 have hG:(sortG b).length<1000000:=by rw[sortG_len2];have:=(stories_len hB).1;omega
 have hl:=e_span_l b (sortG b) hG f cap (fun g=>fl (bitsL g)) ex s hc1 hc2 (fun g hg=>hF g (by rw[←sortG_bits hT];exact List.mem_map.2 ⟨g,hg,rfl⟩))
 rw[spn_fold fl (sortG b) (fun e=>hne ((sortG_nil2 b).1 e)),sortG_bits hT]at hl
 unfold stG at h
 generalize hullF fl (storiesL b)=r at*
 generalize sortG b=G at*
 rw[den_fn t70 _ _ _ rfl]
 simp only[b70]
 simp (maxSteps:=1000000) (disch:=first|omega|assumption|decide +kernel|(simp;done)|(simp;omega)|fail) [hd,h,hl]
end Go.Proofs.YtoedpegjoccnlaaGreat

/-
  Watch: Fish, Came (not built yet).
-/
namespace Go.Proofs.YtoedpegjoccnlaaGreat
open Go.Ab
theorem e_Fish1(t:CTrap)(hs:ShortT t)(hB:trapB t=true)(i c:Int)(d l1 l2:Nat)(S:Stk)(h1:sget S d l1=some (.cell [i64 i]))(h2:sget S d l2=some (.cell [i64 c]))(hd: ¬d=S.length)(lab):
 den T 71 [.agg (vT t), .ptr d l1 0, .ptr d l2 0] lab S=some (.tup [.agg [i64 (fishC t i c).1.lo,i64 (fishC t i c).1.hi],i64 (fishC t i c).2],S):=by
 have h3:=fun lab s=>e_Fish t hs hB i c lab s
 generalize fishC t i c=r at*
 rw[den_fn t71 _ _ _ rfl]
 simp only[b71]
 simp (maxSteps:=1000000) (disch:=first|omega|assumption|decide +kernel|(simp;done)|(simp;omega)|fail) [hd,h1,h2,h3]
set_option maxHeartbeats 4000000 in
theorem e_FishW(b:WBook)(hc:CopyB b)(hm:Mid b.trap)(i c:Int)(lab s):den T 41 [.agg (vB b),i64 i,i64 c] lab s=some (.tup [.agg [i64 (fishV11 b i c).1.lo,i64 (fishV11 b i c).1.hi],i64 (fishV11 b i c).2],s):=by
 have h0:=fun lab s=>e_isTimeW b hm i lab s
 have w1:IntKind.i64.wrap (b.trap.chambers-1)=b.trap.chambers-1:=by obtain⟨⟨_,_⟩,_⟩:=hm;exact wi _ (by omega) (by omega)
 unfold fishV11
 by_cases h:open11 b (placeB b.trap i c)=0
 ·have h2:=fun(F:Ab.Loc) lab k0=>e_told b hc _ h F s lab k0
  obtain⟨hB,k2,hne⟩:=open11_ok h
  rw[k2]at h2
  have k3:=k2
  simp only[placeB,Bool.and_eq_true]at k2
  obtain⟨c1,c2⟩:=k2
  have hf: ∀g,bitsL g∈storiesL b→fishC (trapOf b (bitsL g)) i c=(difR (trapOf b (bitsL g)) i.toNat c.toNat i.toNat (c.toNat+1),0):=fun g hg=>by
   have ho:openT (trapOf b (bitsL g)) (placeB (trapOf b (bitsL g)) i c)=0:=by
    rw[openT_of (trapB_less (bookB_trap hB) _),show placeB (trapOf b (bitsL g)) i c=placeB b.trap i c from rfl,k3,story_one hg];rfl
   unfold fishC
   rw[if_pos ho]
  have h3:=fun(F:Ab.Loc) (hF:F.get 368=some (.cell (vK b (stG b)))) (hF1:F.get 64=some (.cell [i64 i])) (hF2:F.get 80=some (.cell [i64 c])) lab=>
   e_span hB hne s.length 368 71 [.ptr s.length 64 0, .ptr s.length 80 0] (fun l=>difR (trapOf b l) i.toNat c.toNat i.toNat (c.toNat+1)) (fun _=>0) (F::s) (by simp) (by simp[hF]) (by simp) (by intro keep;simp)
    (fun g hg L lab=>by
      have:=e_Fish1 (trapOf b (bitsL g)) (short_trapOf hB hc _) (trapB_less (bookB_trap hB) _) i c s.length 64 80 (L::F::s) (by simp[hF1]) (by simp[hF2]) (by simp;omega) lab
      rw[hf g hg]at this
      exact this) lab
  rw[show hullF (fun l=>difR (trapOf b l) i.toNat c.toNat i.toNat (c.toNat+1)) (storiesL b)=spanW b i.toNat c.toNat i.toNat (c.toNat+1)from rfl]at h3
  rw[if_pos h]
  clear hf
  unfold stG at h2 h3
  generalize spanW b i.toNat c.toNat i.toNat (c.toNat+1)=r at*
  generalize sortG b=G at*
  rw[den_fn t41 _ _ _ rfl]
  simp only[b41]
  simp (maxSteps:=6000000) (disch:=first|omega|assumption|decide +kernel|(simp;done)|(simp;omega)|fail) [run_drawnK,orSlow_none,h0,w1,c1,c2,h2,h3]
 ·have h1:=fun lab s=>e_told_no b hc _ h lab s
  rw[if_neg h]
  cases c1:wiB i 0 (b.trap.times-1)
  ·have e:placeB b.trap i c=false:=by unfold placeB;rw[c1];rfl
   rw[e]at h1 h⊢
   rw[den_fn t41 _ _ _ rfl]
   simp only[b41]
   simp (maxSteps:=6000000) (disch:=first|omega|assumption|decide +kernel|(simp;done)|(simp;omega)|fail) [run_drawnK,orSlow_none,h0,h1,h,c1]
  ·have e:placeB b.trap i c=wiB c 0 (b.trap.chambers-1):=by unfold placeB;rw[c1];rfl
   rw[e]at h1 h⊢
   generalize hw:wiB c 0 (b.trap.chambers-1)=w at*
   rw[den_fn t41 _ _ _ rfl]
   simp only[b41]
   simp (maxSteps:=6000000) (disch:=first|omega|assumption|decide +kernel|(simp;done)|(simp;omega)|fail) [run_drawnK,orSlow_none,h0,w1,hw,h1,h,c1]
end Go.Proofs.YtoedpegjoccnlaaGreat

/-
  Watch: Came (not built yet).
-/
namespace Go.Proofs.YtoedpegjoccnlaaGreat
open Go.Ab
end Go.Proofs.YtoedpegjoccnlaaGreat

/-
  Watch: fewest, no word more (not built yet).
-/
namespace Go.Proofs.YtoedpegjoccnlaaGreat
open Go.Ab
end Go.Proofs.YtoedpegjoccnlaaGreat

/-
  Watch: fewest, the search (not built yet).
-/
namespace Go.Proofs.YtoedpegjoccnlaaGreat
open Go.Ab
end Go.Proofs.YtoedpegjoccnlaaGreat

/-
  Watch: fewest, the search with words more (not built yet).
-/
namespace Go.Proofs.YtoedpegjoccnlaaGreat
open Go.Ab
end Go.Proofs.YtoedpegjoccnlaaGreat

/-
  Watch, laws: copies, equal books.
-/
namespace Go.Proofs.YtoedpegjoccnlaaGreat
open Go.Ab
set_option maxHeartbeats 4000000 in
theorem e_Copy11(b:WBook)(hc:CopyB b)(lab s):den T 19 [.agg (vB b)] lab s=some (.agg (vB b),s):=by
 obtain⟨h1,h2,h3⟩:=hc.trap
 have hs:=hc.trap.short
 have hso:=hc.sober
 by_cases hw:b.trap.words=[]
 ·have hC:=fun(loc:Ab.Loc) lab k0=>e_Copy01_0 b.trap hs h1 h3 hw loc s lab k0
  by_cases h0:b.sober=[]
  ·rw[den_fn t19 _ _ _ rfl]
   simp only[b19]
   simp (maxSteps:=6000000) (disch:=first|omega|assumption|decide +kernel|(simp;done)|(simp;omega)|fail) [run_drawnK,orSlow_none,hC,h0,appD_full_nil]
   try simp[hw]
  ·have hne:es cInt b.sober≠[]:=by simpa using h0
   rw[den_fn t19 _ _ _ rfl]
   simp only[b19]
   simp (maxSteps:=6000000) (disch:=first|omega|assumption|decide +kernel|(simp;done)|(simp;omega)|fail) [run_drawnK,orSlow_none,hC,hne,appD_full]
   try simp[hw]
 ·have hC:=fun(loc:Ab.Loc) lab k0 k1=>e_Copy01_1 b.trap hs h1 h2 h3 hw loc s lab k0 k1
  by_cases h0:b.sober=[]
  ·rw[den_fn t19 _ _ _ rfl]
   simp only[b19]
   simp (maxSteps:=6000000) (disch:=first|omega|assumption|decide +kernel|(simp;done)|(simp;omega)|fail) [run_drawnK,orSlow_none,hC,h0,appD_full_nil]
  ·have hne:es cInt b.sober≠[]:=by simpa using h0
   rw[den_fn t19 _ _ _ rfl]
   simp only[b19]
   simp (maxSteps:=6000000) (disch:=first|omega|assumption|decide +kernel|(simp;done)|(simp;omega)|fail) [run_drawnK,orSlow_none,hC,hne,appD_full]
end Go.Proofs.YtoedpegjoccnlaaGreat

/-
  Watch, laws: equal books.
-/
namespace Go.Proofs.YtoedpegjoccnlaaGreat
open Go.Ab
end Go.Proofs.YtoedpegjoccnlaaGreat

/-
  Watch, laws: Huge, Far, ready (not built yet).
-/
namespace Go.Proofs.YtoedpegjoccnlaaGreat
open Go.Ab
structure ShortB(b:WBook):Prop where
 trap:ShortT b.trap
 sober:b.sober.length<4611686018427387904
def hugeL(l:List (List Int)):Bool:=decide (40<l.length)|| !allB (fun r=>decide (r.length≤40)) l
def hugeT(t:CTrap):Bool:=hugeL t.opn||decide (40<t.words.length)
def hugeK(b:WBook):Bool:=hugeT b.trap||decide (40<b.sober.length)
theorem e_huge_l(l:List (List Int))(hl:l.length≤40)(s:Stk)(he: ∀r,r∈l→r.length<4611686018427387904):
 Run T b75l0 [(0, .sl .no 1 (es cInts l)),(3,i64 0)] ([]::s)=
  if allB (fun r=>decide (r.length≤40)) l=true then some (.exit 0,[(0, .sl .no 1 (es cInts l)),(3,i64 l.length),(10, .bool false)],[]::s)else some (.ret,[(2, .bool true)],[]::s):=by
 refine loop_all l (fun r=>decide (r.length≤40)) (fun k=>[(0, .sl .no 1 (es cInts l)),(3,i64 k)]) (fun _=>[]::s) _ _ (by simp) (by simp) ?_ (by simp) _ _ (by simp) (by simp)
 intro k hk
 have hk2:(k:Int)<l.length:=by omega
 generalize hR:l[k]=R at*
 by_cases h:R.length≤40
 ·have h2: ¬(40:Int)<R.length:=by omega
  simp (maxSteps:=1000000) (disch:=first|omega|assumption|decide +kernel|(simp;done)|(simp;omega)|fail) [hk,hk2,hR,h,h2,wk k (by omega)]
 ·have h2:(40:Int)<R.length:=by omega
  simp (maxSteps:=1000000) (disch:=first|omega|assumption|decide +kernel|(simp;done)|(simp;omega)|fail) [hk,hk2,hR,h,h2,wk k (by omega)]
theorem e_huge(l:List (List Int))(hl:l.length<4611686018427387904)(he: ∀r,r∈l→r.length<4611686018427387904)(lab s):den T 75 [.sl .no 1 (es cInts l)] lab s=some (.bool (hugeL l),s):=by
 unfold hugeL
 rw[den_fn t75 _ _ _ rfl]
 simp only[b75]
 by_cases h:40<l.length
 ·have h2:(40:Int)<l.length:=by omega
  simp (maxSteps:=1000000) (disch:=first|omega|assumption|decide +kernel|(simp;done)|(simp;omega)|fail) [h,h2]
 ·have h2: ¬(40:Int)<l.length:=by omega
  have h1:=e_huge_l l (by omega) s he
  cases ha:allB (fun r=>decide (r.length≤40)) l
  ·rw[ha,if_neg (by simp)]at h1
   simp (maxSteps:=1000000) (disch:=first|omega|assumption|decide +kernel|(simp;done)|(simp;omega)|fail) [h,h2,h1]
  ·rw[ha,if_pos rfl]at h1
   simp (maxSteps:=1000000) (disch:=first|omega|assumption|decide +kernel|(simp;done)|(simp;omega)|fail) [h,h2,h1]
theorem e_Huge01(t:CTrap)(hs:ShortT t)(lab s):den T 46 [.agg (vT t)] lab s=some (.bool (hugeT t),s):=by
 have h1:=fun lab s=>e_huge t.opn hs.opn hs.each lab s
 have hw:=hs.words
 unfold hugeT
 rw[den_fn t46 _ _ _ rfl]
 simp only[b46]
 cases c:hugeL t.opn
 ·by_cases h:40<t.words.length
  ·have h2:(40:Int)<t.words.length:=by omega
   simp (maxSteps:=1000000) (disch:=first|omega|assumption|decide +kernel|(simp;done)|(simp;omega)|fail) [h1,c,h,h2]
  ·have h2: ¬(40:Int)<t.words.length:=by omega
   simp (maxSteps:=1000000) (disch:=first|omega|assumption|decide +kernel|(simp;done)|(simp;omega)|fail) [h1,c,h,h2]
 ·simp (maxSteps:=1000000) (disch:=first|omega|assumption|decide +kernel|(simp;done)|(simp;omega)|fail) [h1,c]
theorem e_Huge11(b:WBook)(hs:ShortB b)(lab s):den T 31 [.agg (vB b)] lab s=some (.bool (hugeK b),s):=by
 have h1:=fun lab s=>e_Huge01 b.trap hs.trap lab s
 have hw:=hs.sober
 unfold hugeK
 rw[den_fn t31 _ _ _ rfl]
 simp only[b31]
 cases c:hugeT b.trap
 ·by_cases h:40<b.sober.length
  ·have h2:(40:Int)<b.sober.length:=by omega
   simp (maxSteps:=1000000) (disch:=first|omega|assumption|decide +kernel|(simp;done)|(simp;omega)|fail) [h1,c,h,h2]
  ·have h2: ¬(40:Int)<b.sober.length:=by omega
   simp (maxSteps:=1000000) (disch:=first|omega|assumption|decide +kernel|(simp;done)|(simp;omega)|fail) [h1,c,h,h2]
 ·simp (maxSteps:=1000000) (disch:=first|omega|assumption|decide +kernel|(simp;done)|(simp;omega)|fail) [h1,c]
theorem hugeK_copy {b:WBook}(h:hugeK b=false):CopyB b:=by
 simp only[hugeK,hugeT,hugeL,Bool.or_eq_false_iff,decide_eq_false_iff_not,Bool.not_eq_false',allB_iff,decide_eq_true_eq]at h
 obtain⟨⟨⟨h1,h2⟩,h3⟩,h4⟩:=h
 exact⟨⟨by omega,by omega,fun l hl=>by have:=h2 l hl;omega⟩,by omega⟩
def farB(b:WBook):Bool:=hugeK b||((decide (3<b.trap.chambers)||decide (4<b.trap.times))&&bookB b)
theorem e_Far(b:WBook)(hs:ShortB b)(lab s):den T 5 [.agg (vB b)] lab s=some (.bool (farB b),s):=by
 have h1:=fun lab s=>e_Huge11 b hs lab s
 unfold farB
 cases c:hugeK b
 ·have h2:=fun lab s=>e_Check11 b (hugeK_copy c) lab s
  rw[den_fn t5 _ _ _ rfl]
  simp only[b5]
  by_cases q1:3<b.trap.chambers
  ·cases q:bookB b<;>simp (maxSteps:=1000000) (disch:=first|omega|assumption|decide +kernel|(simp;done)|(simp;omega)|fail) [h1,h2,c,q1,q]
  ·by_cases q2:4<b.trap.times
   ·cases q:bookB b<;>simp (maxSteps:=1000000) (disch:=first|omega|assumption|decide +kernel|(simp;done)|(simp;omega)|fail) [h1,h2,c,q1,q2,q]
   ·simp (maxSteps:=1000000) (disch:=first|omega|assumption|decide +kernel|(simp;done)|(simp;omega)|fail) [h1,h2,c,q1,q2]
 ·rw[den_fn t5 _ _ _ rfl]
  simp only[b5]
  simp (maxSteps:=1000000) (disch:=first|omega|assumption|decide +kernel|(simp;done)|(simp;omega)|fail) [h1,c]
theorem farB_copy {b:WBook}(h:farB b=false):CopyB b:=by
 unfold farB at h
 exact hugeK_copy (by rw[Bool.or_eq_false_iff]at h;exact h.1)
end Go.Proofs.YtoedpegjoccnlaaGreat

/-
  What the arguments of the laws of watch read as.
-/
namespace Go.Proofs.YtoedpegjoccnlaaGreat
open Go.Ab
set_option maxRecDepth 100000
theorem cells65:Tryz.prog.cellsOf 65=4:=by kernel_rfl
theorem cells3:Tryz.prog.cellsOf 3=1:=by kernel_rfl
theorem cells26:Tryz.prog.cellsOf 26=1:=by kernel_rfl
variable {B : TypeId → Nat → Prop} {n : Nat} {vs : List V}
theorem fit_int(h:Fit Tryz.prog B (n+1) 3 vs): ∃x,vs=[i64 x]:=by
 simp only[Fit,Tryz.underlying3]at h
 exact h
theorem es_all {α:Type} {f:α→List V}(l:List (List V))(h: ∀x∈l,∃y,x=f y): ∃l':List α,l=es f l':=by
 obtain⟨l',h1,_⟩:=es_of (Q:=fun _=>True) l fun x hx=>by obtain⟨y,hy⟩:=h x hx;exact⟨y,hy,trivial⟩
 exact⟨l',h1⟩
theorem fit_ints(h:Fit Tryz.prog B (n+2) 26 vs): ∃l:List Int,vs=[.sl .no 1 (es cInt l)]∧B 3 l.length:=by
 rw[Fit,Tryz.underlying26]at h
 simp only at h
 obtain⟨l,rfl,hb,h⟩:=h
 obtain⟨l',rfl⟩:=es_all (f:=cInt) l fun x hx=>by obtain⟨y,hy⟩:=fit_int (h x hx);exact⟨y,hy⟩
 rw[cells3]
 exact⟨l',rfl,by simpa using hb⟩
theorem fit_lists(h:Fit Tryz.prog B (n+3) 22 vs): ∃l:List (List Int),vs=[.sl .no 1 (es cInts l)]∧B 26 l.length∧ ∀x,x∈l→B 3 x.length:=by
 rw[Fit,Tryz.underlying22]at h
 simp only at h
 obtain⟨l,rfl,hb,h⟩:=h
 obtain⟨l',h1,h2⟩:=es_of (f:=cInts) (Q:=fun x=>B 3 x.length) l fun x hx=>by obtain⟨y,hy,hy2⟩:=fit_ints (h x hx);exact⟨y,hy,hy2⟩
 subst h1
 rw[cells26]
 exact⟨l',rfl,by simpa using hb,h2⟩
theorem fit_cword(h:Fit Tryz.prog B (n+2) 65 vs): ∃x:CWord,vs=cWord x:=by
 rw[Fit,Tryz.underlying65]at h
 simp only[FitF]at h
 obtain⟨_,_,rfl,h0,_,_,rfl,h1,_,_,rfl,h2,_,_,rfl,h3,rfl⟩:=h
 obtain⟨a,rfl⟩:=fit_int h0
 obtain⟨b,rfl⟩:=fit_int h1
 obtain⟨c,rfl⟩:=fit_int h2
 obtain⟨d,rfl⟩:=fit_int h3
 exact⟨⟨a,b,c,d⟩,rfl⟩
theorem fit_words(h:Fit Tryz.prog B (n+3) 23 vs): ∃l:List CWord,vs=[.sl .no 4 (es cWord l)]∧B 65 l.length:=by
 rw[Fit,Tryz.underlying23]at h
 simp only at h
 obtain⟨l,rfl,hb,h⟩:=h
 obtain⟨l',rfl⟩:=es_all (f:=cWord) l fun x hx=>fit_cword (h x hx)
 rw[cells65]
 exact⟨l',rfl,by simpa using hb⟩
def Reach(e:TypeId)(k:Nat):Prop:=k≤maxLen∧k*Tryz.prog.bytesOf e≤reachBytes
theorem bytes65:Tryz.prog.bytesOf 65=32:=by kernel_rfl
theorem bytes3:Tryz.prog.bytesOf 3=8:=by kernel_rfl
theorem bytes26:Tryz.prog.bytesOf 26=24:=by kernel_rfl
theorem reach_ints {k:Nat}(h:Reach 3 k):k<4611686018427387904:=by
 simp only[Reach,bytes3,reachBytes]at h;omega
theorem reach_lists {k:Nat}(h:Reach 26 k):k<4611686018427387904:=by
 simp only[Reach,bytes26,reachBytes]at h;omega
theorem reach_words {k:Nat}(h:Reach 65 k):k<4611686018427387904:=by
 simp only[Reach,bytes65,reachBytes]at h;omega
theorem fit_trap(h:Fit Tryz.prog Reach (n+4) 25 vs): ∃t:CTrap,vs=vT t∧ShortT t:=by
 rw[Fit,Tryz.underlying25]at h
 simp only[FitF]at h
 obtain⟨_,_,rfl,h0,_,_,rfl,h1,_,_,rfl,h2,_,_,rfl,h3,rfl⟩:=h
 obtain⟨a,rfl⟩:=fit_int h0
 obtain⟨b,rfl⟩:=fit_int h1
 obtain⟨c,rfl,q1,q2⟩:=fit_lists h2
 obtain⟨d,rfl,q3⟩:=fit_words h3
 exact⟨⟨a,b,c,d⟩,rfl,reach_lists q1,reach_words q3,fun l hl=>reach_ints (q2 l hl)⟩
theorem fit_book(h:Fit Tryz.prog Reach (n+5) 28 vs): ∃b:WBook,vs=vB b∧ShortB b:=by
 rw[Fit,Tryz.underlying28]at h
 simp only[FitF]at h
 obtain⟨_,_,rfl,h0,_,_,rfl,h1,_,_,rfl,h2,_,_,rfl,h3,rfl⟩:=h
 obtain⟨t,rfl,q1⟩:=fit_trap h0
 obtain⟨a,rfl⟩:=fit_int h1
 obtain⟨c,rfl⟩:=fit_int h2
 obtain⟨d,rfl,q3⟩:=fit_ints h3
 exact⟨⟨t,a,c,d⟩,rfl,q1,reach_ints q3⟩
theorem fit_tale(h:Fit Tryz.prog Reach (n+4) 36 vs): ∃(g:List Int) (m:List (List Int)),vs=[.sl .no 1 (es cInt g), .sl .no 1 (es cInts m)]∧g.length<4611686018427387904∧m.length<4611686018427387904∧ ∀x,x∈m→x.length<4611686018427387904:=by
 rw[Fit,Tryz.underlying36]at h
 simp only[FitF]at h
 obtain⟨_,_,rfl,h0,_,_,rfl,h1,rfl⟩:=h
 obtain⟨a,rfl,q0⟩:=fit_ints h0
 obtain⟨b,rfl,q1,q2⟩:=fit_lists h1
 exact⟨a,b,rfl,reach_ints q0,reach_lists q1,fun x hx=>reach_ints (q2 x hx)⟩
end Go.Proofs.YtoedpegjoccnlaaGreat

/-
  Watch, laws: the examples, works (not built yet).
-/
namespace Go.Proofs.YtoedpegjoccnlaaGreat
open Go.Ab
theorem e_word11(a b c d:Int)(lab s):den T 64 [i64 a,i64 b,i64 c,i64 d] lab s=some (.agg [i64 a,i64 b,i64 c,i64 d],s):=by
 rw[den_fn t64 _ _ _ rfl]
 simp only[b64]
 simp (maxSteps:=1000000) (disch:=first|omega|assumption|decide +kernel|(simp;done)|(simp;omega)|fail) []
theorem exB_copy:CopyB exB:=hugeK_copy (by decide)
theorem exB_ok:bookB exB=true:=by decide +kernel
theorem exB_mid:Mid exB.trap:=trapB_mid (bookB_trap exB_ok)
set_option maxHeartbeats 2000000 in
theorem e_Example11(lab s):den T 39 [] lab s=some (.tup [.agg (vB exB), .agg (vB exC)],s):=by
 have hC:=fun lab s=>e_Copy11 exB exB_copy lab s
 simp only[vB,exB,exC,es,List.map_cons,List.map_nil,cInts_eq,cInts,cInt,cWord]at hC⊢
 rw[den_fn t39 _ _ _ rfl]
 simp only[b39]
 simp (maxSteps:=6000000) (disch:=first|omega|assumption|decide +kernel|(simp;done)|(simp;omega)|fail) [run_drawnK,orSlow_none,e_word11,hC]
end Go.Proofs.YtoedpegjoccnlaaGreat

/-
  Watch, laws: small helpers (not built yet).
-/
namespace Go.Proofs.YtoedpegjoccnlaaGreat
open Go.Ab
theorem open11_B {b:WBook}(h:bookB b=true) {is:Bool}:open11 b is=if is=true then(if storiesL b=[]then 3 else 0)else 1:=by
 unfold open11 ask11
 rw[h]
 cases is<;>simp
end Go.Proofs.YtoedpegjoccnlaaGreat

/-
  Watch: WatchGood (not built yet).
-/
namespace Go.Proofs.YtoedpegjoccnlaaGreat
open Go.Ab
end Go.Proofs.YtoedpegjoccnlaaGreat

/-
  Watch, laws: books that are not valid, of any numbers (not built yet).
-/
namespace Go.Proofs.YtoedpegjoccnlaaGreat
open Go.Ab
section
variable (b : WBook) (hc : CopyB b) (hB : bookB b = false)
include hc hB
end
end Go.Proofs.YtoedpegjoccnlaaGreat

/-
  Watch: WatchDrunk, WatchLies, WatchFish (not built yet).
-/
namespace Go.Proofs.YtoedpegjoccnlaaGreat
open Go.Ab
end Go.Proofs.YtoedpegjoccnlaaGreat

/-
  Watch: WatchSober (not built yet).
-/
namespace Go.Proofs.YtoedpegjoccnlaaGreat
open Go.Ab
end Go.Proofs.YtoedpegjoccnlaaGreat

/-
  Watch: WatchBlame.
-/
namespace Go.Proofs.YtoedpegjoccnlaaGreat
open Go.Ab
end Go.Proofs.YtoedpegjoccnlaaGreat

/-
  Watch: WatchWithout.
-/
namespace Go.Proofs.YtoedpegjoccnlaaGreat
open Go.Ab
end Go.Proofs.YtoedpegjoccnlaaGreat

/-
  Watch: no span is wider.
-/
namespace Go.Proofs.YtoedpegjoccnlaaGreat
open Go.Ab
theorem fish_in {b:WBook}(hB:bookB b=true)(hne:storiesL b≠[]) {i c:Nat}(hi:i<b.T)(hc:c<b.trap.C):fishV11 b i c=(spanW b i c i (c+1),0):=by
 have e1:b.T=b.trap.times.toNat:=rfl
 have e2:b.trap.C=b.trap.chambers.toNat:=rfl
 have hp:placeB b.trap i c=true:=by
  unfold placeB
  rw[wiB_iff.2 (by omega),wiB_iff.2 (by omega)];rfl
 unfold fishV11
 rw[open11_B hB,hp,if_pos rfl,if_neg hne,if_pos rfl]
 simp only[Int.toNat_natCast]
theorem inS_iff {a b:CSp}:inS a b=true↔b.lo≤a.lo∧a.lo≤a.hi∧a.hi≤b.hi:=by simp[inS]
end Go.Proofs.YtoedpegjoccnlaaGreat

/-
  Watch: WatchMore.
-/
namespace Go.Proofs.YtoedpegjoccnlaaGreat
open Go.Ab
end Go.Proofs.YtoedpegjoccnlaaGreat

/-
  Watch: a time that is sober.
-/
namespace Go.Proofs.YtoedpegjoccnlaaGreat
open Go.Ab
def pickSo(b:WBook)(n:Int)(a:List Int)(k:Nat):List Int:=if (decide ((k:Int)=n)||b.sober.contains (k:Int))=true then a ++[(k:Int)]else a
theorem pickSo_fold(b:WBook)(n:Int): ∀(l:List Nat) (a:List Int),l.foldl (pickSo b n) a=a ++((l.filter fun(k:Nat)=>decide ((k:Int)=n)||b.sober.contains (k:Int)).map fun(k:Nat)=>(k:Int))
 |[],a=>by simp
 |k::l,a=>by
   rw[List.foldl_cons,pickSo_fold b n l,List.filter_cons]
   unfold pickSo
   cases (decide ((k:Int)=n)||b.sober.contains (k:Int))<;>simp
theorem sobered_ok {b:WBook}(hB:bookB b=true)(hc:CopyB b)(n:Int):bookB (soberedB b n)=true∧CopyB (soberedB b n):=by
 have hok:=bookB_ok hB
 have ht:=hok.t6
 have hall:=soberL_all b n
 obtain⟨h1,h2⟩:=allL_mem.1 hall
 have hl:=pair_lenL (lo:=0) h1 h2
 have eT:b.T=b.trap.times.toNat:=rfl
 have htt:=hok.trap.tt
 constructor
 ·simp only[bookB,Bool.and_eq_true]at hB⊢
  refine⟨hB.1,hB.2.1,hB.2.2.1,rising_iff.2 ⟨h1,fun y hy=> ?_⟩⟩
  have:=h2 y hy
  show 0≤y∧y≤b.trap.times-1
  omega
 ·exact⟨hc.trap,by show(soberL b n).length<_;omega⟩
end Go.Proofs.YtoedpegjoccnlaaGreat

/-
  Watch: the reference's Sum, Behind, IsTruth.
-/
namespace Go.Proofs.YtoedpegjoccnlaaGreat
open Go.Ab
theorem sum_bound: ∀(l:List Int),(∀n,n∈l→0≤n∧n≤40)→0≤l.sum∧l.sum≤40*(l.length:Int)
 |[],_=>by simp
 |x::l,h=>by
   have h1:=h x (List.mem_cons_self ..)
   have h2:=sum_bound l fun n hn=>h n (List.mem_cons_of_mem _ hn)
   rw[List.sum_cons,List.length_cons]
   push_cast
   omega
theorem foldl_sum: ∀(l:List Int) (a:Int),l.foldl (fun x y=>x+y) a=a+l.sum
 |[],a=>by simp
 |x::l,a=>by rw[List.foldl_cons,foldl_sum l,List.sum_cons];omega
theorem e_Sum_l(l:List Int)(hl:l.length<1000000)(hb: ∀n,n∈l→0≤n∧n≤40)(s:Stk):
 Run T b63l0 [(0, .sl .no 1 (es cInt l)),(3,i64 0),(4,i64 0)] ([]::s)=some (.exit 0,[(0, .sl .no 1 (es cInt l)),(3,i64 ((l).foldl (fun x y=>x+y) 0)),(4,i64 ((l).length:Nat)),(8, .bool false)],[]::s):=by
 have key:=loop_fold (T:=T) (live:=[0,3,4]) (keep:=[]) (b:=d63l0) (l) (fun k a=>0≤a∧a≤40*(k:Int)) (fun x y=>x+y) (fun k (a:Int)=>[(0, .sl .no 1 (es cInt l)),(3,i64 a),(4,i64 (k:Nat))]) (fun k (a:Int)=>[]::s) (fun(a:Int)=>(.exit 0,[(0, .sl .no 1 (es cInt l)),(3,i64 a),(4,i64 ((l).length:Nat)),(8, .bool false)],[]::s)) (by simp) ?_ ?_ ?_ 0 (by simp) [(0, .sl .no 1 (es cInt l)),(3,i64 0),(4,i64 0)] ([]::s) (by simp) (by simp)
 ·exact key
 ·intro k a hk hi
  have hk2:(k:Int)<l.length:=by omega
  have h1:=hb _ (List.getElem_mem hk)
  generalize hx:l[k]=x at*
  have w1:IntKind.i64.wrap (a+x)=a+x:=wi _ (by omega) (by omega)
  simp (maxSteps:=1000000) (disch:=first|omega|assumption|decide +kernel|(simp;done)|(simp;omega)|fail) [hk,hk2,hx,w1,wk k (by omega)]
 ·intro k a hk hi
  have h1:=hb _ (List.getElem_mem hk)
  push_cast
  omega
 ·intro a hi
  simp
theorem e_Sum(l:List Int)(hl:l.length<1000000)(hb: ∀n,n∈l→0≤n∧n≤40)(lab s):den T 63 [.sl .no 1 (es cInt l)] lab s=some (i64 l.sum,s):=by
 have h:=e_Sum_l l hl hb s
 rw[foldl_sum,Int.zero_add]at h
 rw[den_fn t63 _ _ _ rfl]
 simp only[b63]
 simp (maxSteps:=1000000) (disch:=first|omega|assumption|decide +kernel|(simp;done)|(simp;omega)|fail) [h]
theorem e_Behind(r:List Int)(hl:r.length<1000000)(hb: ∀n,n∈r→0≤n∧n≤40)(c:Nat)(hc:c≤r.length)(lab s):den T 36 [.sl .no 1 (es cInt r),i64 c] lab s=some (i64 (behindL r c),s):=by
 have h:=fun lab s=>e_Sum (r.drop c) (by rw[List.length_drop];omega) (fun n hn=>hb n (List.mem_of_mem_drop hn)) lab s
 have hc2:(c:Int)≤r.length:=by omega
 have hm:min r.length r.length=r.length:=Nat.min_self _
 have ht:(es cInt r).take r.length=es cInt r:=List.take_of_length_le (by simp)
 unfold behindL
 rw[den_fn t36 _ _ _ rfl]
 simp only[b36]
 simp (maxSteps:=1000000) (disch:=first|omega|assumption|decide +kernel|(simp;done)|(simp;omega)|fail) [h,hc,hc2,ht]
def stepQ(t:CTrap)(L:List (List Int))(i c:Nat):Bool:=decide (0≤rowsX L i c-rowsX L (i-1) c)&&(doorB t (i-1) c||decide (rowsX L i c-rowsX L (i-1) c≤0))
def rowQ(t:CTrap)(L:List (List Int))(i:Nat):Bool:=decide (((L.getD i []).length:Int)=t.chambers)&&(allB (fun n=>wiB n 0 40) (L.getD i [])&&(decide (rowsX L i 0≤40)&&(i==0||allB (stepQ t L i) (List.range t.C))))
def wordQ(L:List (List Int))(w:CWord):Bool:=wiB ((L.getD w.time.toNat []).getD w.chamber.toNat 0) w.lo w.hi
theorem truthT_rows(t:CTrap)(L:List (List Int)):truthT t L=(decide ((L.length:Int)=t.times)&&(allB (rowQ t L) (List.range t.T)&&allB (wordQ L) t.words)):=by
 unfold truthT rowQ wordQ allB stepQ
 rw[Bool.and_assoc]
 congr 2
 congr 1
 funext i
 congr 3
 cases h:(i==0)
 ·simp
 ·simp
theorem rowQ_ok {t:CTrap} {L:List (List Int)} {i:Nat}(h:rowQ t L i=true):((L.getD i []).length:Int)=t.chambers∧ ∀n,n∈L.getD i []→0≤n∧n≤40:=by
 simp only[rowQ,Bool.and_eq_true,decide_eq_true_eq,allB_iff,wiB_iff]at h
 exact⟨h.1,h.2.1⟩
end Go.Proofs.YtoedpegjoccnlaaGreat

/-
  Watch: the reference's IsTruth: a row.
-/
namespace Go.Proofs.YtoedpegjoccnlaaGreat
open Go.Ab
theorem e_truth_l1(t:CTrap)(L:List (List Int))(i:Nat)(hi:i<L.length)(hr:L[i].length<1000000)(s:Stk):
 Run T b11l1 [(1, .sl .no 1 (es cInts L)),(2, .ptr s.length 32 0),(5,i64 (i:Nat)),(6,i64 0)] ([(32, .cell (vT t))]::s)=
  if allB (fun n=>wiB n 0 40) L[i]=true then some (.exit 2,[(1, .sl .no 1 (es cInts L)),(2, .ptr s.length 32 0),(5,i64 (i:Nat)),(6,i64 L[i].length),(36, .bool false)],[(32, .cell (vT t))]::s)else some (.ret,[(4, .bool false)],[(32, .cell (vT t))]::s):=by
 have hi2:(i:Int)<L.length:=by omega
 generalize hR:L[i]=R at*
 refine loop_all R (fun n=>wiB n 0 40) (fun k=>[(1, .sl .no 1 (es cInts L)),(2, .ptr s.length 32 0),(5,i64 (i:Nat)),(6,i64 k)]) (fun _=>[(32, .cell (vT t))]::s) _ _ (by simp) (by simp) ?_ ?_ _ _ (by simp) (by simp)
 ·intro k hk
  have hk2:(k:Int)<R.length:=by omega
  generalize hx:R[k]=x at*
  cases h:wiB x 0 40
  ·simp (maxSteps:=1000000) (disch:=first|omega|assumption|decide +kernel|(simp;done)|(simp;omega)|fail) [hi,hi2,hR,hk,hk2,hx,h,wk k (by omega)]
  ·simp (maxSteps:=1000000) (disch:=first|omega|assumption|decide +kernel|(simp;done)|(simp;omega)|fail) [hi,hi2,hR,hk,hk2,hx,h,wk k (by omega)]
 ·simp (maxSteps:=1000000) (disch:=first|omega|assumption|decide +kernel|(simp;done)|(simp;omega)|fail) [hi,hi2,hR]
end Go.Proofs.YtoedpegjoccnlaaGreat

/-
  Watch: the reference's IsTruth: a row and the one before.
-/
namespace Go.Proofs.YtoedpegjoccnlaaGreat
open Go.Ab
set_option maxHeartbeats 4000000 in
theorem e_truth_l2(t:CTrap)(ht:TrapOk t)(ho: ∀x,x∈t.opn→x.length<4611686018427387904)(L:List (List Int))(i:Nat)(hi:i<L.length)(hT:(L.length:Int)=t.times)(h0:0<i)(ha:(L[i].length:Int)=t.chambers∧ ∀n,n∈L[i]→0≤n∧n≤40)(hb:(L[i-1].length:Int)=t.chambers∧ ∀n,n∈L[i-1]→0≤n∧n≤40)(s:Stk):
 Run T b11l2 [(1, .sl .no 1 (es cInts L)),(2, .ptr s.length 32 0),(5,i64 (i:Nat)),(7,i64 0)] ([(32, .cell (vT t))]::s)=
  if allB (stepQ t L i) (List.range t.C)=true then some (.exit 4,[(1, .sl .no 1 (es cInts L)),(2, .ptr s.length 32 0),(5,i64 (i:Nat)),(7,i64 t.chambers),(61, .bool false)],[(32, .cell (vT t))]::s)else some (.ret,[(4, .bool false)],[(32, .cell (vT t))]::s):=by
 have hcc:=ht.cc
 have hopn:=ht.opn
 have htt:=ht.tt
 have eC:t.C=t.chambers.toNat:=rfl
 have hz:((t.C:Nat):Int)=t.chambers:=by omega
 obtain⟨j,rfl⟩: ∃j,i=j+1:=⟨i-1,by omega⟩
 simp only[Nat.add_sub_cancel]at hb
 have hi2:(j:Int)+1<L.length:=by omega
 have hi4:j<L.length:=by omega
 have hi5:(j:Int)<L.length:=by omega
 have hi6:((j:Int)+1).toNat=j+1:=by omega
 have hi7:(0:Int)≤(j:Int)+1:=by omega
 have hi3:(0:Int)<(j:Int)+1:=by omega
 have hi8:j<t.opn.length:=by omega
 have hi9:(j:Int)<t.opn.length:=by omega
 have w0:IntKind.i64.wrap (j:Int)=(j:Int):=wi _ (by omega) (by omega)
 refine(loop_all (List.range t.C) (stepQ t L (j+1)) (fun k=>[(1, .sl .no 1 (es cInts L)),(2, .ptr s.length 32 0),(5,i64 ((j:Int)+1)),(7,i64 k)]) (fun _=>[(32, .cell (vT t))]::s) (.ret,[(4, .bool false)],[(32, .cell (vT t))]::s) (.exit 4,[(1, .sl .no 1 (es cInts L)),(2, .ptr s.length 32 0),(5,i64 ((j:Int)+1)),(7,i64 ((List.range t.C).length:Nat)),(61, .bool false)],[(32, .cell (vT t))]::s) (by simp) (by simp) ?_ ?_ _ _ (by simp) (by simp)).trans (by simp only[List.length_range,hz];rfl)
 ·intro k hk
  simp only[List.length_range]at hk
  simp only[List.getElem_range]
  have hk2:(k:Int)<t.chambers:=by omega
  have hk9:k<1000:=by omega
  have h1:=fun lab s=>e_Behind L[j+1] (by omega) ha.2 k (by omega) lab s
  have h2:=fun lab s=>e_Behind L[j] (by omega) hb.2 k (by omega) lab s
  have r1:rowsX L (j+1) k=behindL L[j+1] k:=by unfold rowsX;simp[List.getD,hi]
  have r2:rowsX L j k=behindL L[j] k:=by unfold rowsX;simp[List.getD,hi4]
  have b1:=sum_bound (L[j+1].drop k) fun n hn=>ha.2 n (List.mem_of_mem_drop hn)
  have b2:=sum_bound (L[j].drop k) fun n hn=>hb.2 n (List.mem_of_mem_drop hn)
  rw[List.length_drop]at b1 b2
  have dd:doorB t j k=(t.opn[j]).contains (k:Int):=by
   unfold doorB
   have:t.opn.getD j []=t.opn[j]:=by simp[List.getD,hi8]
   rw[this,←in_contains];rfl
  have i1:=fun lab s=>e_In t.opn[j] k (ho _ (List.getElem_mem hi8)) lab s
  rw[in_contains]at i1
  unfold stepQ
  simp only[Nat.add_sub_cancel]
  rw[r1,r2,dd]
  have w1:IntKind.i64.wrap (behindL L[j+1] k-behindL L[j] k)=behindL L[j+1] k-behindL L[j] k:=by unfold behindL;exact wi _ (by omega) (by omega)
  clear b1 b2 r1 r2 dd ha hb eC hz hcc hopn htt
  generalize behindL L[j+1] k=x at*
  generalize behindL L[j] k=y at*
  generalize hA:L[j+1]=A at*
  generalize hB:L[j]=B at*
  generalize hD:t.opn[j]=D at*
  generalize D.contains (k:Int)=c at*
  by_cases q1:x<y
  ·have q1': ¬y≤x:=by omega
   have e:(decide (0≤x-y)&&(c||decide (x-y≤0)))=false:=by rw[decide_eq_false (by omega)];rfl
   rw[e]
   have q3:x-y<0:=by omega
   simp (maxSteps:=6000000) (disch:=first|omega|assumption|decide +kernel|(simp;done)|(simp;omega)|fail) [run_drawnK,orSlow_none,hk2,hi,hi2,hi3,hi4,hi5,hi6,hi7,hi8,hi9,w0,w1,h1,h2,i1,-e_In,hA,hB,hD,q1,q1',q3,wk k (by omega)]
  ·have q1':y≤x:=by omega
   have q3: ¬x-y<0:=by omega
   by_cases q2:y<x
   ·have q2':0<x-y:=by omega
    have e:(decide (0≤x-y)&&(c||decide (x-y≤0)))=c:=by rw[decide_eq_true (by omega),decide_eq_false (by omega)];simp
    rw[e]
    cases c
    ·simp (maxSteps:=6000000) (disch:=first|omega|assumption|decide +kernel|(simp;done)|(simp;omega)|fail) [run_drawnK,orSlow_none,hk2,hi,hi2,hi3,hi4,hi5,hi6,hi7,hi8,hi9,w0,w1,h1,h2,i1,-e_In,hA,hB,hD,q1,q1',q2,q2',q3,wk k (by omega)]
    ·simp (maxSteps:=6000000) (disch:=first|omega|assumption|decide +kernel|(simp;done)|(simp;omega)|fail) [run_drawnK,orSlow_none,hk2,hi,hi2,hi3,hi4,hi5,hi6,hi7,hi8,hi9,w0,w1,h1,h2,i1,-e_In,hA,hB,hD,q1,q1',q2,q2',q3,wk k (by omega)]
   ·have q2': ¬0<x-y:=by omega
    have e:(decide (0≤x-y)&&(c||decide (x-y≤0)))=true:=by rw[decide_eq_true (by omega),decide_eq_true (by omega)];simp
    rw[e]
    simp (maxSteps:=6000000) (disch:=first|omega|assumption|decide +kernel|(simp;done)|(simp;omega)|fail) [run_drawnK,orSlow_none,hk2,hi,hi2,hi3,hi4,hi5,hi6,hi7,hi8,hi9,w0,w1,h1,h2,i1,-e_In,hA,hB,hD,q1,q1',q2,q2',q3,wk k (by omega)]
 ·have hz2: ¬((t.C:Nat):Int)<t.chambers:=by omega
  simp only[List.length_range]
  generalize t.C=n at*
  simp (maxSteps:=1000000) (disch:=first|omega|assumption|decide +kernel|(simp;done)|(simp;omega)|fail) [hz2]
end Go.Proofs.YtoedpegjoccnlaaGreat

/-
  Watch: the reference's IsTruth, whole.
-/
namespace Go.Proofs.YtoedpegjoccnlaaGreat
open Go.Ab
set_option maxHeartbeats 8000000 in
theorem e_truth_l0(t:CTrap)(ht:TrapOk t)(ho: ∀x,x∈t.opn→x.length<4611686018427387904)(L:List (List Int))(hT:(L.length:Int)=t.times)(s:Stk):
 Run T b11l0 [(1, .sl .no 1 (es cInts L)),(2, .ptr s.length 32 0),(5,i64 0)] ([(32, .cell (vT t))]::s)=
  if allB (rowQ t L) (List.range t.T)=true then some (.exit 0,[(1, .sl .no 1 (es cInts L)),(2, .ptr s.length 32 0),(5,i64 L.length),(19, .bool false)],[(32, .cell (vT t))]::s)else some (.ret,[(4, .bool false)],[(32, .cell (vT t))]::s):=by
 have hcc:=ht.cc
 have htt:=ht.tt
 have eT:t.T=t.times.toNat:=rfl
 have eC:t.C=t.chambers.toNat:=rfl
 have key:=loop_list (T:=T) (live:=[1,2,5]) (keep:=[32]) (b:=d11l0) (List.range t.T) (fun k (_:Unit)=> ∀j,j<k→rowQ t L j=true) (fun k _=>[(1, .sl .no 1 (es cInts L)),(2, .ptr s.length 32 0),(5,i64 (k:Nat))]) (fun _ _=>[(32, .cell (vT t))]::s)
  (fun a i=>if rowQ t L i=true then .inl a else .inr (.ret,[(4, .bool false)],[(32, .cell (vT t))]::s)) (fun _=>(.exit 0,[(1, .sl .no 1 (es cInts L)),(2, .ptr s.length 32 0),(5,i64 L.length),(19, .bool false)],[(32, .cell (vT t))]::s)) ?_ ?_ ?_ ?_ (by simp) () (by intro j hj;omega) [(1, .sl .no 1 (es cInts L)),(2, .ptr s.length 32 0),(5,i64 0)] ([(32, .cell (vT t))]::s) (by simp) (by simp)
 ·rw[foldS_all]at key
  unfold allB
  rw[show Run T b11l0=Run T (.loop [1,2,5] [32] d11l0)from rfl,key]
  split<;>rfl
 ·intro k _ hk hI
  simp only[List.length_range]at hk
  simp only[List.getElem_range]
  have hk1:k<L.length:=by omega
  have hk2:(k:Int)<L.length:=by omega
  have hk9:k<1000:=by omega
  have eL:L.getD k []=L[k]:=by simp[List.getD,hk1]
  by_cases q1:(L[k].length:Int)=t.chambers
  rotate_left
  ·have e:rowQ t L k=false:=by unfold rowQ;rw[eL,decide_eq_false q1];rfl
   rw[e]
   generalize hR:L[k]=R at*
   simp (maxSteps:=6000000) (disch:=first|omega|assumption|decide +kernel|(simp;done)|(simp;omega)|fail) [run_drawnK,orSlow_none,hk1,hk2,hR,q1]
  have hx:L[k].length<1000000:=by omega
  have h1:=e_truth_l1 t L k hk1 hx s
  cases q2:allB (fun n=>wiB n 0 40) L[k]
  ·have e:rowQ t L k=false:=by unfold rowQ;rw[eL,q2,decide_eq_true q1];rfl
   rw[e]
   rw[q2,if_neg (by simp)]at h1
   generalize hR:L[k]=R at*
   simp (maxSteps:=6000000) (disch:=first|omega|assumption|decide +kernel|(simp;done)|(simp;omega)|fail) [run_drawnK,orSlow_none,hk1,hk2,hR,q1,h1]
  rw[q2,if_pos rfl]at h1
  have hin: ∀n,n∈L[k]→0≤n∧n≤40:=fun n hn=>wiB_iff.1 (allB_iff.1 q2 n hn)
  have h2:=fun lab s=>e_Behind L[k] hx hin 0 (Nat.zero_le _) lab s
  have r0:rowsX L k 0=behindL L[k] 0:=by unfold rowsX;rw[eL]
  have b1:=sum_bound (L[k].drop 0) fun n hn=>hin n (List.mem_of_mem_drop hn)
  simp only[Int.natCast_zero]at h2
  by_cases q3:behindL L[k] 0≤40
  rotate_left
  ·have e:rowQ t L k=false:=by unfold rowQ;rw[eL,q2,decide_eq_true q1,r0,decide_eq_false q3];rfl
   have q3':40<behindL L[k] 0:=by omega
   rw[e]
   clear b1 r0 q3
   generalize behindL L[k] 0=B at*
   generalize hR:L[k]=R at*
   simp (maxSteps:=6000000) (disch:=first|omega|assumption|decide +kernel|(simp;done)|(simp;omega)|fail) [run_drawnK,orSlow_none,hk1,hk2,hR,q1,h1,h2,q3']
  have q3': ¬40<behindL L[k] 0:=by omega
  by_cases h0:k=0
  ·have e:rowQ t L k=true:=by unfold rowQ;rw[eL,q2,decide_eq_true q1,r0,decide_eq_true q3,h0];rfl
   rw[e]
   subst h0
   have hl2:Run T b11l2 [(1, .sl .no 1 (es cInts L)),(2, .ptr s.length 32 0),(5,i64 0),(7,i64 0)] ([(32, .cell (vT t))]::s)=some (.exit 4,[(1, .sl .no 1 (es cInts L)),(2, .ptr s.length 32 0),(5,i64 0),(7,i64 0),(61, .bool false)],[(32, .cell (vT t))]::s):=by
    have hcp:(0:Int)<t.chambers:=by omega
    unfold b11l2
    rw[run_head (e':=[(1, .sl .no 1 (es cInts L)),(2, .ptr s.length 32 0),(5,i64 0),(7,i64 0)]) (s':=[(32, .cell (vT t))]::s) _ _ _ _ _ (by simp) (by simp)]
    simp (maxSteps:=1000000) (disch:=first|omega|assumption|decide +kernel|(simp;done)|(simp;omega)|fail) [hcp]
   clear b1 r0 q3
   simp only[Int.natCast_zero]at h1
   generalize behindL L[0] 0=B at*
   generalize hR:L[0]=R at*
   simp (maxSteps:=6000000) (disch:=first|omega|assumption|decide +kernel|(simp;done)|(simp;omega)|fail) [run_drawnK,orSlow_none,hk1,hk2,hR,q1,h1,h2,q3',hl2,wi]
  ·have hk4:k-1<L.length:=by omega
   have hprev:=rowQ_ok (hI (k-1) (by omega))
   have eP:L.getD (k-1) []=L[k-1]:=by simp[List.getD,hk4]
   rw[eP]at hprev
   have h3:=e_truth_l2 t ht ho L k hk1 hT (by omega) ⟨q1,hin⟩ hprev s
   cases q4:allB (stepQ t L k) (List.range t.C)
   ·have e:rowQ t L k=false:=by unfold rowQ;rw[eL,q2,decide_eq_true q1,r0,decide_eq_true q3,q4];simp[h0]
    rw[e]
    rw[q4,if_neg (by simp)]at h3
    clear b1 r0 q3 hprev eP
    generalize behindL L[k] 0=B at*
    generalize hR:L[k]=R at*
    simp (maxSteps:=6000000) (disch:=first|omega|assumption|decide +kernel|(simp;done)|(simp;omega)|fail) [run_drawnK,orSlow_none,hk1,hk2,hR,q1,h1,h2,h3,q3']
   ·have e:rowQ t L k=true:=by unfold rowQ;rw[eL,q2,decide_eq_true q1,r0,decide_eq_true q3,q4];simp
    rw[e]
    rw[q4,if_pos rfl]at h3
    clear b1 r0 q3 hprev eP
    generalize behindL L[k] 0=B at*
    generalize hR:L[k]=R at*
    simp (maxSteps:=6000000) (disch:=first|omega|assumption|decide +kernel|(simp;done)|(simp;omega)|fail) [run_drawnK,orSlow_none,hk1,hk2,hR,q1,h1,h2,h3,q3',wk k (by omega)]
 ·intro k a a' hk hI h j hj
  simp only[List.getElem_range]at h
  by_cases e:j<k
  ·exact hI j e
  ·have:j=k:=by omega
   subst this
   cases q:rowQ t L j
   ·rw[q]at h;simp at h
   ·rfl
 ·intro k a q hk hI h
  simp only[List.getElem_range]at h
  split at h<;>simp at h
  rw[←h];simp
 ·intro a hI
  simp only[List.length_range]
  have hz:((t.T:Nat):Int)=L.length:=by omega
  rw[hz]
  simp (maxSteps:=1000000) (disch:=first|omega|assumption|decide +kernel|(simp;done)|(simp;omega)|fail) []
set_option maxHeartbeats 4000000 in
theorem e_truth_l3(t:CTrap)(ht:TrapOk t)(L:List (List Int))(hT:(L.length:Int)=t.times)(hrow: ∀i,i<L.length→((L.getD i []).length:Int)=t.chambers)(s:Stk):
 ∃g:CWord,Run T b11l3 [(1, .sl .no 1 (es cInts L)),(2, .ptr s.length 32 0),(9,i64 0)] ([(32, .cell (vT t))]::s)=
  if allB (wordQ L) t.words=true then some (.exit 6,[(1, .sl .no 1 (es cInts L)),(2, .ptr s.length 32 0),(9,i64 t.words.length),(99, .bool false)],[(32, .cell (vT t))]::s)else some (.ret,[(4, .bool false)],[(32, .cell (vT t)),(160, .cell (cWord g))]::s):=by
 have hw9:=ht.words
 refine loop_all_g (T:=T) (b:=d11l3) t.words (wordQ L) (fun k=>[(1, .sl .no 1 (es cInts L)),(2, .ptr s.length 32 0),(9,i64 k)]) (fun _=>[(32, .cell (vT t))]::s) (fun g:CWord=>(.ret,[(4, .bool false)],[(32, .cell (vT t)),(160, .cell (cWord g))]::s)) _ (by simp) (by simp) ?_ (by simp) _ _ (by simp) (by simp)
 intro k hk
 refine⟨t.words[k],?_⟩
 have hk2:(k:Int)<t.words.length:=by omega
 have hw:=wordOk_iff.1 (ht.word _ (List.getElem_mem hk))
 unfold wordQ
 generalize hx:t.words[k]=w at*
 obtain⟨w0,w1,w2,w3⟩:=w
 dsimp only at*
 obtain⟨i,rfl⟩: ∃i:Nat,w0=i:=⟨w0.toNat,by omega⟩
 obtain⟨c,rfl⟩: ∃c:Nat,w1=c:=⟨w1.toNat,by omega⟩
 simp only[Int.toNat_natCast]
 have hi:i<L.length:=by omega
 have hi2:(i:Int)<L.length:=by omega
 have hl:=hrow i hi
 have eL:L.getD i []=L[i]:=by simp[List.getD,hi]
 rw[eL]at hl
 simp only[eL]
 have hc:c<L[i].length:=by omega
 have hc2:(c:Int)<L[i].length:=by omega
 have ec:L[i].getD c 0=L[i][c]:=by simp[List.getD,hc]
 simp only[ec]
 clear hl hw ec eL
 generalize hR:L[i]=R at*
 generalize hz:R[c]=z at*
 cases h:wiB z w2 w3
 ·simp (maxSteps:=6000000) (disch:=first|omega|assumption|decide +kernel|(simp;done)|(simp;omega)|fail) [run_drawnK,orSlow_none,hk,hk2,hx,hi,hi2,hc,hc2,hR,hz,h,wk k (by omega)]
 ·simp (maxSteps:=6000000) (disch:=first|omega|assumption|decide +kernel|(simp;done)|(simp;omega)|fail) [run_drawnK,orSlow_none,hk,hk2,hx,hi,hi2,hc,hc2,hR,hz,h,wk k (by omega)]
theorem e_IsTruth(t:CTrap)(ht:TrapOk t)(ho: ∀x,x∈t.opn→x.length<4611686018427387904)(L:List (List Int))(lab s):den T 11 [.agg (vT t), .sl .no 1 (es cInts L)] lab s=some (.bool (truthT t L),s):=by
 rw[truthT_rows]
 rw[den_fn t11 _ _ _ rfl]
 simp only[b11]
 by_cases hT:(L.length:Int)=t.times
 rotate_left
 ·simp (maxSteps:=6000000) (disch:=first|omega|assumption|decide +kernel|(simp;done)|(simp;omega)|fail) [hT]
 have htt:=ht.tt
 have eT:t.T=t.times.toNat:=rfl
 have h0:=e_truth_l0 t ht ho L hT s
 cases q0:allB (rowQ t L) (List.range t.T)
 ·rw[q0,if_neg (by simp)]at h0
  simp (maxSteps:=6000000) (disch:=first|omega|assumption|decide +kernel|(simp;done)|(simp;omega)|fail) [hT,h0]
 have hrow: ∀i,i<L.length→((L.getD i []).length:Int)=t.chambers:=fun i hi=>(rowQ_ok (allB_iff.1 q0 i (List.mem_range.2 (by omega)))).1
 obtain⟨g,h3⟩:=e_truth_l3 t ht L hT hrow s
 rw[q0,if_pos rfl]at h0
 cases q1:allB (wordQ L) t.words
 ·rw[q1,if_neg (by simp)]at h3
  simp (maxSteps:=6000000) (disch:=first|omega|assumption|decide +kernel|(simp;done)|(simp;omega)|fail) [hT,h0,h3]
 ·rw[q1,if_pos rfl]at h3
  simp (maxSteps:=6000000) (disch:=first|omega|assumption|decide +kernel|(simp;done)|(simp;omega)|fail) [hT,h0,h3]
end Go.Proofs.YtoedpegjoccnlaaGreat

/-
  Layer 1's helpers of the references, and the types of layers 2, 5 and 13.
-/
namespace Go.Proofs.YtoedpegjoccnlaaGreat.A
open Go.Ab
@[simp] theorem map_cInt(r:Ren)(l):(es cInt l).map (V.mapAll r)=es cInt l:=es_map _ _ (fun _=>by simp) _
@[simp] theorem strip_cInt(l):(es cInt l).map V.stripAll=es cInt l:=es_strip _ (fun _=>by simp) _
@[simp] theorem refs_cInt(own:Bool)(d:Nat)(l):(es cInt l).flatMap (V.refsAll own d)=[]:=es_refs _ _ _ (fun _=>by simp) _
@[simp] theorem elems_cInt(l):elemsOk (es cInt l) 1=true:=elemsOk_es _ _ (fun _=>by simp) _
@[simp] theorem map_cSp(r:Ren)(l):(es cSp l).map (V.mapAll r)=es cSp l:=es_map _ _ (fun _=>by simp) _
@[simp] theorem strip_cSp(l):(es cSp l).map V.stripAll=es cSp l:=es_strip _ (fun _=>by simp) _
@[simp] theorem refs_cSp(own:Bool)(d:Nat)(l):(es cSp l).flatMap (V.refsAll own d)=[]:=es_refs _ _ _ (fun _=>by simp) _
@[simp] theorem elems_cSp(l):elemsOk (es cSp l) 2=true:=elemsOk_es _ _ (fun _=>by simp) _
structure Anc where
 weight:Int
 bottom:Int
 deriving DecidableEq,Inhabited
@[simp] def cAnc(a:Anc):List V:=[i64 a.weight,i64 a.bottom]
@[simp] theorem map_cAnc(r:Ren)(l):(es cAnc l).map (V.mapAll r)=es cAnc l:=es_map _ _ (fun _=>by simp) _
@[simp] theorem strip_cAnc(l):(es cAnc l).map V.stripAll=es cAnc l:=es_strip _ (fun _=>by simp) _
@[simp] theorem refs_cAnc(own:Bool)(d:Nat)(l):(es cAnc l).flatMap (V.refsAll own d)=[]:=es_refs _ _ _ (fun _=>by simp) _
@[simp] theorem elems_cAnc(l):elemsOk (es cAnc l) 2=true:=elemsOk_es _ _ (fun _=>by simp) _
@[simp] theorem Anc.eta(s:Anc):Anc.mk s.weight s.bottom=s:=rfl
structure Wal where
 sail:Int
 drag:Int
 lean:Int
 corks:Int
 stones:Int
 deriving DecidableEq,Inhabited
@[simp] def cWal(a:Wal):List V:=[i64 a.sail,i64 a.drag,i64 a.lean,i64 a.corks,i64 a.stones]
@[simp] theorem map_cWal(r:Ren)(l):(es cWal l).map (V.mapAll r)=es cWal l:=es_map _ _ (fun _=>by simp) _
@[simp] theorem strip_cWal(l):(es cWal l).map V.stripAll=es cWal l:=es_strip _ (fun _=>by simp) _
@[simp] theorem refs_cWal(own:Bool)(d:Nat)(l):(es cWal l).flatMap (V.refsAll own d)=[]:=es_refs _ _ _ (fun _=>by simp) _
@[simp] theorem elems_cWal(l):elemsOk (es cWal l) 5=true:=elemsOk_es _ _ (fun _=>by simp) _
@[simp] theorem Wal.eta(s:Wal):Wal.mk s.sail s.drag s.lean s.corks s.stones=s:=rfl
structure Net where
 wind:Sp
 cur:Sp
 grips:List Sp
 anch:List Anc
 walls:List Wal
@[simp] theorem Net.eta(s:Net):Net.mk s.wind s.cur s.grips s.anch s.walls=s:=rfl
structure Boat where
 carry:Int
 pence:Int
 deriving DecidableEq,Inhabited
@[simp] def cBoat(a:Boat):List V:=[i64 a.carry,i64 a.pence]
@[simp] theorem map_cBoat(r:Ren)(l):(es cBoat l).map (V.mapAll r)=es cBoat l:=es_map _ _ (fun _=>by simp) _
@[simp] theorem strip_cBoat(l):(es cBoat l).map V.stripAll=es cBoat l:=es_strip _ (fun _=>by simp) _
@[simp] theorem refs_cBoat(own:Bool)(d:Nat)(l):(es cBoat l).flatMap (V.refsAll own d)=[]:=es_refs _ _ _ (fun _=>by simp) _
@[simp] theorem elems_cBoat(l):elemsOk (es cBoat l) 2=true:=elemsOk_es _ _ (fun _=>by simp) _
@[simp] theorem Boat.eta(s:Boat):Boat.mk s.carry s.pence=s:=rfl
structure Sea where
 weight:Sp
 places:List Sp
 boats:List Boat
@[simp] theorem Sea.eta(s:Sea):Sea.mk s.weight s.places s.boats=s:=rfl
structure Sky where
 wind:Sp
 cur:Sp
 deriving DecidableEq,Inhabited
@[simp] def cSky(a:Sky):List V:=[i64 a.wind.lo,i64 a.wind.hi,i64 a.cur.lo,i64 a.cur.hi]
@[simp] theorem map_cSky(r:Ren)(l):(es cSky l).map (V.mapAll r)=es cSky l:=es_map _ _ (fun _=>by simp) _
@[simp] theorem strip_cSky(l):(es cSky l).map V.stripAll=es cSky l:=es_strip _ (fun _=>by simp) _
@[simp] theorem refs_cSky(own:Bool)(d:Nat)(l):(es cSky l).flatMap (V.refsAll own d)=[]:=es_refs _ _ _ (fun _=>by simp) _
@[simp] theorem elems_cSky(l):elemsOk (es cSky l) 4=true:=elemsOk_es _ _ (fun _=>by simp) _
@[simp] theorem Sky.eta(s:Sky):Sky.mk s.wind s.cur=s:=rfl
structure Season where
 net:Net
 sea:Sea
 skies:List Sky
 follows:List (List Int)
 first:List Int
 days:List Sp
@[simp] theorem Season.eta(s:Season):Season.mk s.net s.sea s.skies s.follows s.first s.days=s:=rfl
@[simp] theorem e_Within(n lo hi:Int)(lab s):den T 9 [i64 n,i64 lo,i64 hi] lab s=some (.bool (wiB n lo hi),s):=by
 rw[den_fn t9 _ _ _ rfl]
 simp only[b9]
 by_cases h:lo≤n<;>simp[h,wiB]
theorem e_In_l(l:List Int)(n:Int)(s:Stk)(hl:l.length<4611686018427387904):
 Run T b18l0 [(0, .sl .no 1 (es cInt l)),(1,i64 n),(5,i64 0)] ([]::s)=if anyB (fun x=>decide (x=n)) l=true then some (.ret,[(4, .bool true)],[]::s)else some (.exit 0,[(0, .sl .no 1 (es cInt l)),(1,i64 n),(5,i64 l.length),(9, .bool false)],[]::s):=by
 refine loop_any l (fun x=>decide (x=n)) (fun k=>[(0, .sl .no 1 (es cInt l)),(1,i64 n),(5,i64 k)]) (fun _=>[]::s) _ _ (by simp) (by simp) ?_ (by simp) _ _ (by simp) (by simp)
 intro k hk
 by_cases h:l[k]=n<;>simp[hk,h,wk k (by omega)]
@[simp] theorem e_In(l:List Int)(n:Int)(hl:l.length<4611686018427387904)(lab s):
 den T 18 [.sl .no 1 (es cInt l),i64 n] lab s=some (.bool (anyB (fun x=>decide (x=n)) l),s):=by
 rw[den_fn t18 _ _ _ rfl]
 simp only[b18]
 cases hx:anyB (fun x=>decide (x=n)) l<;>simp[e_In_l,hl,hx]
end Go.Proofs.YtoedpegjoccnlaaGreat.A

/-
  The references' Check of layers 2, 5 and 13.
-/
namespace Go.Proofs.YtoedpegjoccnlaaGreat.A
open Go.Ab
@[simp] theorem e_within05(n lo hi:Int)(lab s):den T 35 [i64 n,i64 lo,i64 hi] lab s=some (.bool (wiB n lo hi),s):=by
 rw[den_fn t35 _ _ _ rfl]
 simp[b35]
def spanOk(s:Sp)(most:Int):Bool:=wiB s.hi 0 most&&wiB s.lo 0 s.hi
@[simp] theorem e_isSpan05(x0:Int)(x1:Int)(m:Int)(lab s):den T 34 [.agg [i64 x0,i64 x1],i64 m] lab s=some (.bool (spanOk (⟨x0,x1⟩:Sp) m),s):=by
 rw[den_fn t34 _ _ _ rfl]
 simp only[b34]
 cases h:wiB x1 0 m<;>simp[h,spanOk]
def ancOk(g:Int)(a:Anc):Bool:=wiB a.weight 0 20&&wiB a.bottom 0 (g-1)
def walOk(w:Wal):Bool:=wiB w.sail 0 9&&wiB w.drag 0 9&&wiB w.lean 0 9&&wiB w.corks 0 99&&wiB w.stones 0 99
def netOk(n:Net):Bool:=spanOk n.wind 20&&spanOk n.cur 20&&decide (n.grips.length≤3)&&decide (n.anch.length≤6)&&decide ((n.walls.length:Int)=max 0 ((n.anch.length:Int)-1))&&allB (spanOk · 9) n.grips&&allB (ancOk n.grips.length) n.anch&&allB walOk n.walls
end Go.Proofs.YtoedpegjoccnlaaGreat.A

/-
  The references' Check of layers 5 and 13, and what the statements call far.
-/
namespace Go.Proofs.YtoedpegjoccnlaaGreat.A
open Go.Ab
def lowSum(l:List Sp):Int:=(l.map (·.lo)).sum
def highSum(l:List Sp):Int:=(l.map (·.hi)).sum
def boatOk(b:Boat):Bool:=wiB b.carry 0 999&&wiB b.pence 0 99
def seaOk(s:Sea):Bool:=spanOk s.weight 2000&&decide ((s.places.length:Int)≤4)&&decide ((s.boats.length:Int)≤6)&&allB (spanOk · 12) s.places&&allB boatOk s.boats&&decide (lowSum s.places≤12)&&decide (12≤highSum s.places)
def sums(p:Sp→Bool):List Sp→Int×Int→Option (Int×Int)
 |[],a=>some a
 |x::r,a=>if p x=true then sums p r (a.1+x.lo,a.2+x.hi)else none
theorem sums_eq(p:Sp→Bool)(l:List Sp)(a:Int×Int):sums p l a=if allB p l=true then some (a.1+lowSum l,a.2+highSum l)else none:=by
 induction l generalizing a with
 |nil=>simp[sums,lowSum,highSum,allB]
 |cons x r ih=>
   by_cases h:p x=true
   ·simp only[sums,h,if_true,ih,allB,List.all_cons,Bool.true_and,lowSum,highSum,List.map_cons,List.sum_cons]
    split<;>simp_all [Int.add_assoc]
   ·simp[sums,h,allB]
theorem foldS_sums(p:Sp→Bool)(q:Ex×Env×Stk)(fin:Int×Int→Ex×Env×Stk)(l:List Sp)(a:Int×Int):
 foldS (fun a x=>if p x=true then .inl (a.1+x.lo,a.2+x.hi)else .inr q) fin l a=(match sums p l a with|some b=>fin b|none=>q):=by
 induction l generalizing a with
 |nil=>rfl
 |cons x r ih=>
   by_cases h:p x=true
   ·simp only[foldS,sums,h,if_true,ih]
   ·simp only[foldS,sums,h,Bool.false_eq_true,if_false]
theorem within_iff {n lo hi:Int}:wiB n lo hi=true↔lo≤n∧n≤hi:=by simp[wiB]
theorem spanOk_iff {x:Sp} {m:Int}:spanOk x m=true↔0≤x.lo∧x.lo≤x.hi∧x.hi≤m:=by
 simp only[spanOk,Bool.and_eq_true,within_iff];omega
theorem e_Check05_l0(n0:Int)(n1:Int)(n2:List Sp)(n3:List Boat)(s:Stk)(hl:n2.length≤4):
 Run T b8l0 [(1, .ptr s.length 16 0),(3,i64 0),(4,i64 0),(5,i64 0)] ([(16, .cell [i64 n0,i64 n1, .sl .no 2 (es cSp n2), .sl .no 2 (es cBoat n3)])]::s)=
  if allB (spanOk · 12) n2=true then some (.exit 0,[(1, .ptr s.length 16 0),(3,i64 (lowSum n2)),(4,i64 (highSum n2)),(5,i64 n2.length),(28, .bool false)],[(16, .cell [i64 n0,i64 n1, .sl .no 2 (es cSp n2), .sl .no 2 (es cBoat n3)])]::s)
  else some (.ret,[(2,i64 50)],[(16, .cell [i64 n0,i64 n1, .sl .no 2 (es cSp n2), .sl .no 2 (es cBoat n3)])]::s):=by
 have h:Run T b8l0 [(1, .ptr s.length 16 0),(3,i64 0),(4,i64 0),(5,i64 0)] ([(16, .cell [i64 n0,i64 n1, .sl .no 2 (es cSp n2), .sl .no 2 (es cBoat n3)])]::s)=some (foldS (fun(a:Int×Int) x=>if spanOk x 12=true then .inl (a.1+x.lo,a.2+x.hi)else .inr (.ret,[(2,i64 50)],[(16, .cell [i64 n0,i64 n1, .sl .no 2 (es cSp n2), .sl .no 2 (es cBoat n3)])]::s)) (fun a=>(.exit 0,[(1, .ptr s.length 16 0),(3,i64 a.1),(4,i64 a.2),(5,i64 n2.length),(28, .bool false)],[(16, .cell [i64 n0,i64 n1, .sl .no 2 (es cSp n2), .sl .no 2 (es cBoat n3)])]::s)) n2 (0,0)):=by
  refine loop_list n2 (fun k (a:Int×Int)=>0≤a.1∧a.1≤12*k∧0≤a.2∧a.2≤12*k) (fun k a=>[(1, .ptr s.length 16 0),(3,i64 a.1),(4,i64 a.2),(5,i64 k)]) (fun _ _=>[(16, .cell [i64 n0,i64 n1, .sl .no 2 (es cSp n2), .sl .no 2 (es cBoat n3)])]::s) _ _ ?_ ?_ ?_ ?_ ?_ (0,0) ?_ _ _ (by simp) (by simp)
  ·intro k a hk hi
   cases h:spanOk n2[k] 12
   ·simp (disch:=first|omega|assumption|decide +kernel|(simp;done)|(simp;omega)|fail) [hk,h]
   ·obtain⟨h1,h2,h3⟩:=spanOk_iff.1 h
    simp (disch:=first|omega|assumption|decide +kernel|(simp;done)|(simp;omega)|fail) [hk,h,wk k (by omega),wi]
  ·intro k a a' hk hi h
   split at h
   ·rename_i h0
    obtain⟨h1,h2,h3⟩:=spanOk_iff.1 h0
    cases h
    simp only;omega
   ·cases h
  ·intro k a q hk hi h
   split at h
   ·cases h
   ·cases h;simp
  ·intro a hi;simp
  ·intro a;simp
  ·simp
 rw[h,foldS_sums,sums_eq]
 cases allB (spanOk · 12) n2<;>simp
theorem e_Check05_l1(n0:Int)(n1:Int)(n2:List Sp)(n3:List Boat)(x y:Int)(s:Stk)(hl:n3.length<4611686018427387904):
 ∃g:Ab.Loc,Run T b8l1 [(1, .ptr s.length 16 0),(3,i64 x),(4,i64 y),(6,i64 0)] ([(16, .cell [i64 n0,i64 n1, .sl .no 2 (es cSp n2), .sl .no 2 (es cBoat n3)])]::s)=if allB boatOk n3=true then some (.exit 2,[(1, .ptr s.length 16 0),(3,i64 x),(4,i64 y),(6,i64 n3.length),(58, .bool false)],([(16, .cell [i64 n0,i64 n1, .sl .no 2 (es cSp n2), .sl .no 2 (es cBoat n3)])]::s))else some (.ret,[(2,i64 50)],(g::s)):=by
 refine loop_all_g n3 boatOk (fun k=>[(1, .ptr s.length 16 0),(3,i64 x),(4,i64 y),(6,i64 k)]) (fun _=>([(16, .cell [i64 n0,i64 n1, .sl .no 2 (es cSp n2), .sl .no 2 (es cBoat n3)])]::s)) (fun g=>(.ret,[(2,i64 50)],(g::s))) _ (by simp) (by simp) ?_ (by simp) _ _ (by simp) (by simp)
 intro k hk
 cases h0:wiB (n3[k]).carry 0 999
 ·refine⟨[(16, .cell [i64 n0,i64 n1, .sl .no 2 (es cSp n2), .sl .no 2 (es cBoat n3)]),(112, .cell (cBoat n3[k]))],?_⟩
  simp (disch:=first|omega|assumption|decide +kernel|(simp;done)|(simp;omega)|fail) [hk,h0,wk k (by omega),boatOk]
 cases h1:wiB (n3[k]).pence 0 99
 ·refine⟨[(16, .cell [i64 n0,i64 n1, .sl .no 2 (es cSp n2), .sl .no 2 (es cBoat n3)]),(112, .cell (cBoat n3[k]))],?_⟩
  simp (disch:=first|omega|assumption|decide +kernel|(simp;done)|(simp;omega)|fail) [hk,h0,h1,wk k (by omega),boatOk]
 refine⟨[],?_⟩
 simp (disch:=first|omega|assumption|decide +kernel|(simp;done)|(simp;omega)|fail) [hk,h0,h1,wk k (by omega),boatOk]
@[simp] theorem e_Check05(n0:Int)(n1:Int)(n2:List Sp)(n3:List Boat)(lab s):den T 8 [.agg [i64 n0,i64 n1, .sl .no 2 (es cSp n2), .sl .no 2 (es cBoat n3)]] lab s=some (i64 (if seaOk (⟨⟨n0,n1⟩,n2,n3⟩:Sea)=true then 0 else 50),s):=by
 rw[den_fn t8 _ _ _ rfl]
 simp only[b8]
 obtain⟨g,hg⟩: ∃g:Ab.Loc,n3.length<4611686018427387904→_:=Classical.byCases (fun h:n3.length<4611686018427387904=>(e_Check05_l1 n0 n1 n2 n3 (lowSum n2) (highSum n2) s h).imp fun _ h _=>h) (fun h=>⟨[],fun h'=>absurd h' h⟩)
 cases c0:spanOk ⟨n0,n1⟩ 2000
 ·simp (disch:=first|omega|assumption|decide +kernel|(simp;done)|(simp;omega)|fail) [c0,seaOk,e_Check05_l0,hg]
 by_cases c1:(4:Int)<n2.length
 ·have c1n:=c1
  try simp at c1n
  simp (disch:=first|omega|assumption|decide +kernel|(simp;done)|(simp;omega)|fail) [c0,c1,c1n,seaOk,e_Check05_l0,hg]<;>omega
 have c1n:=c1
 try simp at c1n
 by_cases c2:(6:Int)<n3.length
 ·have c2n:=c2
  try simp at c2n
  simp (disch:=first|omega|assumption|decide +kernel|(simp;done)|(simp;omega)|fail) [c0,c1,c1n,c2,c2n,seaOk,e_Check05_l0,hg]<;>omega
 have c2n:=c2
 try simp at c2n
 cases c3:allB (spanOk · 12) n2
 ·simp (disch:=first|omega|assumption|decide +kernel|(simp;done)|(simp;omega)|fail) [c0,c1,c1n,c2,c2n,c3,seaOk,e_Check05_l0,hg]
 cases c4:allB boatOk n3
 ·simp (disch:=first|omega|assumption|decide +kernel|(simp;done)|(simp;omega)|fail) [c0,c1,c1n,c2,c2n,c3,c4,seaOk,e_Check05_l0,hg]
 by_cases c5:(12<lowSum n2)
 ·have c5n:=c5
  try simp at c5n
  simp (disch:=first|omega|assumption|decide +kernel|(simp;done)|(simp;omega)|fail) [c0,c1,c1n,c2,c2n,c3,c4,c5,c5n,seaOk,e_Check05_l0,hg]<;>omega
 have c5n:=c5
 try simp at c5n
 by_cases c6:(highSum n2<12)
 ·have c6n:=c6
  try simp at c6n
  simp (disch:=first|omega|assumption|decide +kernel|(simp;done)|(simp;omega)|fail) [c0,c1,c1n,c2,c2n,c3,c4,c5,c5n,c6,c6n,seaOk,e_Check05_l0,hg]<;>omega
 have c6n:=c6
 try simp at c6n
 simp (disch:=first|omega|assumption|decide +kernel|(simp;done)|(simp;omega)|fail) [c0,c1,c1n,c2,c2n,c3,c4,c5,c5n,c6,c6n,seaOk,e_Check05_l0,hg]
theorem e_Rising_l0(l:List Int)(lo hi:Int)(s:Stk)(hl:l.length<4611686018427387904):
 Run T b33l0 [(0, .sl .no 1 (es cInt l)),(1,i64 lo),(2,i64 hi),(7,i64 0)] ([]::s)=
  if rising l lo hi=true then some (.exit 0,[(0, .sl .no 1 (es cInt l)),(1,i64 lo),(2,i64 hi),(7,i64 l.length),(11, .bool false)],[]::s)
  else some (.ret,[(6, .bool false)],[]::s):=by
 refine loop_all (List.range l.length) (risingAt l lo hi) (fun k=>[(0, .sl .no 1 (es cInt l)),(1,i64 lo),(2,i64 hi),(7,i64 k)]) (fun _=>[]::s) _ _ (by simp) (by simp) ?_ (by simp) _ _ (by simp) (by simp)
 intro k hk
 simp only[List.length_range]at hk
 simp only[List.getElem_range]
 have hg:l.getD k 0=l[k]:=by simp[List.getD,hk]
 cases h0:wiB l[k] lo hi
 ·simp (disch:=first|omega|assumption|decide +kernel|(simp;done)|(simp;omega)|fail) [hk,h0,risingAt]
 by_cases h1:k=0
 ·subst h1
  simp (disch:=first|omega|assumption|decide +kernel|(simp;done)|(simp;omega)|fail) [hk,h0,risingAt,wi]
 have hk1:k-1<l.length:=by omega
 have h1p:0<k:=by omega
 have h1q:(1:Int)≤k:=by omega
 have hg1:l.getD (k-1) 0=l[k-1]:=by simp[List.getD,hk1]
 have hn:((k:Int)-1).toNat=k-1:=by omega
 by_cases h2:l[k-1]<l[k]
 ·have h3: ¬l[k]≤l[k-1]:=by omega
  simp (disch:=first|omega|assumption|decide +kernel|(simp;done)|(simp;omega)|fail) [hk,hk1,h0,h1,h1p,h1q,h2,h3,hn,risingAt,wi]
 ·have h3:l[k]≤l[k-1]:=by omega
  simp (disch:=first|omega|assumption|decide +kernel|(simp;done)|(simp;omega)|fail) [hk,hk1,h0,h1,h1p,h1q,h2,h3,hn,risingAt,wi]
@[simp] theorem e_Rising(l:List Int)(lo hi:Int)(hl:l.length<4611686018427387904)(lab s):
 den T 33 [.sl .no 1 (es cInt l),i64 lo,i64 hi] lab s=some (.bool (rising l lo hi),s):=by
 rw[den_fn t33 _ _ _ rfl]
 simp only[b33]
 cases h:rising l lo hi<;>simp[e_Rising_l0,hl,h]
def areSkies(n:Int)(l:List Int):Bool:=decide (0<(l.length:Int))&&rising l 0 (n-1)
end Go.Proofs.YtoedpegjoccnlaaGreat.A

/-
  Copies; what the statements call far; ready.
-/
namespace Go.Proofs.YtoedpegjoccnlaaGreat.A
open Go.Ab
@[simp] theorem e_Copy05(n0:Int)(n1:Int)(n2:List Sp)(n3:List Boat)(h4:n2.length<8796093022208)(h5:n3.length<8796093022208)(lab)(loc:Ab.Loc)(s:Stk)
 (k0:loc.get lab=none) (k1:loc.get (lab+1000)=none):
 den T 42 [.agg [i64 n0,i64 n1, .sl .no 2 (es cSp n2), .sl .no 2 (es cBoat n3)]] lab (loc::s)=some (.agg [i64 n0,i64 n1, .asl s.length lab 2 n2.length 0 n2.length, .asl s.length (lab+1000) 2 n3.length 0 n3.length],
  (loc.put lab (.arr 2 (es cSp n2))).put (lab+1000) (.arr 2 (es cBoat n3))::s):=by
 rw[den_fn t42 _ _ _ rfl]
 simp only[b42]
 simp (disch:=first|omega|assumption|decide +kernel|(simp;done)|(simp;omega)|fail) [appmD_es,run_drawnK,k0,k1]
def hugeNet(n:Net):Bool:=decide (40<(n.grips.length:Int))||decide (40<(n.anch.length:Int))||decide (40<(n.walls.length:Int))
def farSea(n:Sea):Bool:=decide (40<(n.places.length:Int))||decide (40<(n.boats.length:Int))
@[simp] theorem e_Far05(n0:Int)(n1:Int)(n2:List Sp)(n3:List Boat)(lab s):den T 7 [.agg [i64 n0,i64 n1, .sl .no 2 (es cSp n2), .sl .no 2 (es cBoat n3)]] lab s=some (.bool (farSea (⟨⟨n0,n1⟩,n2,n3⟩:Sea)),s):=by
 rw[den_fn t7 _ _ _ rfl]
 simp only[b7]
 by_cases c0:(40:Int)<n2.length
 ·have c0n:=c0
  try simp at c0n
  simp (disch:=first|omega|assumption|decide +kernel|(simp;done)|(simp;omega)|fail) [c0,c0n,farSea]
 have c0n:=c0
 try simp at c0n
 by_cases c1:(40:Int)<n3.length
 ·have c1n:=c1
  try simp at c1n
  simp (disch:=first|omega|assumption|decide +kernel|(simp;done)|(simp;omega)|fail) [c0,c0n,c1,c1n,farSea]
 have c1n:=c1
 try simp at c1n
 simp (disch:=first|omega|assumption|decide +kernel|(simp;done)|(simp;omega)|fail) [c0,c0n,c1,c1n,farSea]
def longList(l:List Int):Bool:=decide (40<(l.length:Int))
def hugeSeason(n:Season):Bool:=hugeNet n.net||farSea n.sea||decide (40<(n.skies.length:Int))||decide (40<(n.follows.length:Int))||decide (40<(n.first.length:Int))||decide (40<(n.days.length:Int))||anyB longList n.follows
end Go.Proofs.YtoedpegjoccnlaaGreat.A

/-
  The reference's Check of layer 13; far; ready.
-/
namespace Go.Proofs.YtoedpegjoccnlaaGreat.A
open Go.Ab
def skyAt(n:Season)(k:Nat):Bool:=match n.skies[k]?,n.follows[k]? with
 |some x,some l=>spanOk x.wind 20&&spanOk x.cur 20&&areSkies n.skies.length l
 |_,_=>false
def seasonOk(n:Season):Bool:=netOk n.net&&seaOk n.sea&&wiB n.skies.length 1 4&&decide ((n.follows.length:Int)=n.skies.length)&&areSkies n.skies.length n.first&&decide ((n.days.length:Int)≤5)&&allB (skyAt n) (List.range n.skies.length)&&allB (spanOk · 2000) n.days
def cntNet(n:Net):Int:=n.grips.foldl (fun a x=>a*(x.hi-x.lo+1)) (n.cur.hi-n.cur.lo+1)
def farNet(n:Net):Bool:=hugeNet n||(netOk n&&(decide (24<cntNet n)||decide (100<cntNet n*(n.wind.hi-n.wind.lo+1))))
theorem mulb {a w A W:Int}(h1:0≤a)(h2:a≤A)(h3:0≤w)(h4:w≤W):0≤a*w∧a*w≤A*W:=
 ⟨Int.mul_nonneg h1 h3,Int.mul_le_mul h2 h4 h3 (Int.le_trans h1 h2)⟩
def farSeason(n:Season):Bool:=hugeSeason n||(seasonOk n&&(decide (3<(n.skies.length:Int))||decide (4<(n.days.length:Int))||anyB (fun x=>farNet {n.net with wind:=x.wind,cur:=x.cur}) n.skies))
theorem seasonOk_iff {n:Season}:seasonOk n=true↔netOk n.net=true∧seaOk n.sea=true∧1≤n.skies.length∧n.skies.length≤4∧n.follows.length=n.skies.length∧areSkies n.skies.length n.first=true∧n.days.length≤5∧allB (skyAt n) (List.range n.skies.length)=true∧allB (spanOk · 2000) n.days=true:=by
 simp only[seasonOk,Bool.and_eq_true,decide_eq_true_eq,and_assoc,within_iff]
 have:((1:Int)≤n.skies.length↔1≤n.skies.length)∧((n.skies.length:Int)≤4↔n.skies.length≤4)∧((n.follows.length:Int)=n.skies.length↔n.follows.length=n.skies.length)∧((n.days.length:Int)≤5↔n.days.length≤5):=by omega
 rw[this.1,this.2.1,this.2.2.1,this.2.2.2]
def ready(n:Season):Bool:= !farSeason n&&seasonOk n
end Go.Proofs.YtoedpegjoccnlaaGreat.A

/-
  The program's Check of layers 2, 5 and 13.
-/
namespace Go.Proofs.YtoedpegjoccnlaaGreat.A
open Go.Ab
theorem denV_fn(f first cap args lab s):denV T (.fn f first cap) args lab s=den T f (first ++args ++cap) lab s:=rfl
end Go.Proofs.YtoedpegjoccnlaaGreat.A

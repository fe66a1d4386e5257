/-
  Watch: the program's Check (not built yet).
-/
import Derived.Test.YthghcainodgnkaaGreatEq2
import Derived.Test.YthghcainodgnkaaGreatEq1
set_option linter.unusedSimpArgs false
set_option linter.unusedVariables false
namespace Go.Proofs.YthghcainodgnkaaGreat
open Go.Ab
theorem e_isTimeW(b:WBook)(hm:Mid b.trap)(i:Int)(lab s):den T 99 [.agg (vB b),i64 i] lab s=some (.bool (wiB i 0 (b.trap.times-1)),s):=by
 obtain⟨_,h1,h2⟩:=hm
 have w1:IntKind.i64.wrap (b.trap.times-1)=b.trap.times-1:=wi _ (by omega) (by omega)
 rw[den_fn t99 _ _ _ rfl]
 simp only[b99]
 simp (disch:=first|omega|assumption|decide +kernel|(simp;done)|(simp;omega)|fail) [w1]
set_option maxHeartbeats 1000000 in
theorem e_areTimes_l(t:CTrap)(hm:Mid t)(l:List Int)(hl:l.length<4611686018427387904)(s:Stk):
 Run T b90l0 [(1, .sl .no 1 (es cInt l)),(2, .ptr s.length 32 0),(7, .sl .no 1 (es cInt l)),(8,i64 l.length),(9,i64 0)] ([(32, .cell (vT t))]::s)=
  if rising l 0 (t.times-1)=true then some (.exit 0,[(1, .sl .no 1 (es cInt l)),(2, .ptr s.length 32 0),(7, .sl .no 1 (es cInt l)),(8,i64 l.length),(9,i64 l.length),(10, .bool false)],[(32, .cell (vT t))]::s)
  else some (.ret,[(4, .bool false)],[(32, .cell (vT t))]::s):=by
 obtain⟨_,m1,m2⟩:=hm
 have w1:IntKind.i64.wrap (t.times-1)=t.times-1:=wi _ (by omega) (by omega)
 refine(loop_all (List.range l.length) (risingAt l 0 (t.times-1)) (fun k=>[(1, .sl .no 1 (es cInt l)),(2, .ptr s.length 32 0),(7, .sl .no 1 (es cInt l)),(8,i64 l.length),(9,i64 k)]) (fun _=>[(32, .cell (vT t))]::s) (.ret,[(4, .bool false)],[(32, .cell (vT t))]::s) (.exit 0,[(1, .sl .no 1 (es cInt l)),(2, .ptr s.length 32 0),(7, .sl .no 1 (es cInt l)),(8,i64 l.length),(9,i64 ((List.range l.length).length:Nat)),(10, .bool false)],[(32, .cell (vT t))]::s) (by simp) (by simp) ?_ (by simp) _ _ (by simp) (by simp)).trans (by simp only[List.length_range];rfl)
 intro k hk
 simp only[List.length_range]at hk
 simp only[List.getElem_range]
 have hg:l.getD k 0=l[k]:=by simp[List.getD,hk]
 have hk2:(k:Int)<l.length:=by omega
 cases h0:wiB l[k] 0 (t.times-1)
 ·simp (disch:=first|omega|assumption|decide +kernel|(simp;done)|(simp;omega)|fail) [hk,hk2,h0,w1,risingAt]
 by_cases h1:k=0
 ·subst h1
  simp (disch:=first|omega|assumption|decide +kernel|(simp;done)|(simp;omega)|fail) [hk,hk2,h0,w1,risingAt,wi]
 have hk1:k-1<l.length:=by omega
 have h1p:0<k:=by omega
 have h1q:(1:Int)≤k:=by omega
 have hg1:l.getD (k-1) 0=l[k-1]:=by simp[List.getD,hk1]
 have hn:((k:Int)-1).toNat=k-1:=by omega
 have wk1:IntKind.i64.wrap ((k:Int)-1)=(k:Int)-1:=wi _ (by omega) (by omega)
 have wk2:IntKind.i64.wrap ((k:Int)+1)=(k:Int)+1:=wi _ (by omega) (by omega)
 have hlt:(k:Int)-1<l.length:=by omega
 by_cases h2:l[k-1]<l[k]
 ·have h3: ¬l[k]≤l[k-1]:=by omega
  simp (disch:=first|omega|assumption|decide +kernel|(simp;done)|(simp;omega)|fail) [hk,hk2,hk1,h0,w1,h1,h1p,h1q,h2,h3,hn,hlt,wk1,wk2,risingAt]
 ·have h3:l[k]≤l[k-1]:=by omega
  simp (disch:=first|omega|assumption|decide +kernel|(simp;done)|(simp;omega)|fail) [hk,hk2,hk1,h0,w1,h1,h1p,h1q,h2,h3,hn,hlt,wk1,wk2,risingAt]
theorem e_areTimes(t:CTrap)(hm:Mid t)(l:List Int)(hl:l.length<4611686018427387904)(lab s):den T 90 [.agg (vT t), .sl .no 1 (es cInt l)] lab s=some (.bool (rising l 0 (t.times-1)),s):=by
 have h:=e_areTimes_l t hm l hl s
 rw[den_fn t90 _ _ _ rfl]
 simp only[b90]
 cases hr:rising l 0 (t.times-1)
 ·rw[hr,if_neg (by simp)]at h
  simp (disch:=first|omega|assumption|decide +kernel|(simp;done)|(simp;omega)|fail) [h]
 ·rw[hr,if_pos rfl]at h
  simp (disch:=first|omega|assumption|decide +kernel|(simp;done)|(simp;omega)|fail) [h]
end Go.Proofs.YthghcainodgnkaaGreat

/-
  Watch: the program's Check.
-/
namespace Go.Proofs.YthghcainodgnkaaGreat
open Go.Ab
theorem e_CheckW(b:WBook)(hc:CopyB b)(lab s):den T 39 [.agg (vB b)] lab s=some (i64 (if bookB b=true then 0 else 110),s):=by
 have h:=fun lab s=>e_Check1C b.trap hc.trap.short lab s
 have h1:=hc.sober
 unfold bookB
 rw[den_fn t39 _ _ _ rfl]
 simp only[b39]
 cases c1:trapB b.trap
 ·simp (maxSteps:=1000000) (disch:=first|omega|assumption|decide +kernel|(simp;done)|(simp;omega)|fail) [h,c1]
 have hm:=trapB_mid c1
 have ha:=fun lab s=>e_areTimes b.trap hm b.sober (by omega) lab s
 cases c2:wiB b.drunk 0 5
 ·simp (maxSteps:=1000000) (disch:=first|omega|assumption|decide +kernel|(simp;done)|(simp;omega)|fail) [h,c1,c2]
 cases c3:wiB b.run 0 5
 ·simp (maxSteps:=1000000) (disch:=first|omega|assumption|decide +kernel|(simp;done)|(simp;omega)|fail) [h,c1,c2,c3]
 cases c4:rising b.sober 0 (b.trap.times-1)<;>simp (maxSteps:=1000000) (disch:=first|omega|assumption|decide +kernel|(simp;done)|(simp;omega)|fail) [h,c1,c2,c3,c4,ha]
end Go.Proofs.YthghcainodgnkaaGreat

/-
  Watch: guessOf (not built yet).
-/
namespace Go.Proofs.YthghcainodgnkaaGreat
open Go.Ab
theorem or_word: ∀a,a<32→ ∀n,n<5→IntKind.u64.wrap ((a%2^IntKind.u64.bits|||(IntKind.u64.wrap (2^min n IntKind.u64.bits)%2^IntKind.u64.bits).toNat:Nat):Int)=((a|||1<<<n:Nat):Int):=by decide +kernel
theorem or_lt: ∀a,a<32→ ∀n,n<5→a|||1<<<n<32:=by decide +kernel
def orBit(g:Nat)(n:Int):Nat:=g|||(1<<<n.toNat)
theorem e_guessOf_l(l:List Int)(hl:l.length<1000000)(hin: ∀n,n∈l→0≤n∧n<5)(s:Stk):
 Run T b93l0 [(2, .int .u64 0),(5, .sl .no 1 (es cInt l)),(6,i64 l.length),(7,i64 0)] ([]::s)=some (.exit 0,[(2, .int .u64 (((l).foldl (orBit) 0):Nat)),(5, .sl .no 1 (es cInt l)),(6,i64 l.length),(7,i64 ((l).length:Nat)),(8, .bool false)],[]::s):=by
 have key:=loop_fold (T:=T) (live:=[2,5,6,7]) (keep:=[]) (b:=d93l0) (l) (fun _ g=>g<32) (orBit) (fun k (a:Nat)=>[(2, .int .u64 (a:Nat)),(5, .sl .no 1 (es cInt l)),(6,i64 l.length),(7,i64 (k:Nat))]) (fun k (a:Nat)=>[]::s) (fun(a:Nat)=>(.exit 0,[(2, .int .u64 (a:Nat)),(5, .sl .no 1 (es cInt l)),(6,i64 l.length),(7,i64 ((l).length:Nat)),(8, .bool false)],[]::s)) (by simp) ?_ ?_ ?_ 0 (by simp) [(2, .int .u64 0),(5, .sl .no 1 (es cInt l)),(6,i64 l.length),(7,i64 0)] ([]::s) (by simp) (by simp)
 ·exact key
 ·intro k a hk hi
  have hk2:(k:Int)<l.length:=by omega
  have hb:=hin _ (List.getElem_mem hk)
  unfold orBit
  generalize hx:l[k]=x at*
  obtain⟨n,rfl⟩: ∃n:Nat,x=n:=⟨x.toNat,by omega⟩
  have hn: ¬(n:Int)<0:=by omega
  simp (maxSteps:=1000000) (disch:=first|omega|assumption|decide +kernel|(simp;done)|(simp;omega)|fail) [hk,hk2,hx,hn,or_word a hi n (by omega),wk k (by omega)]
 ·intro k a hk hi
  have hb:=hin _ (List.getElem_mem hk)
  exact or_lt a hi _ (by omega)
 ·intro a hi
  simp
theorem e_guessOf(l:List Int)(hl:l.length<1000000)(hin: ∀n,n∈l→0≤n∧n<5)(lab s):den T 93 [.sl .no 1 (es cInt l)] lab s=some (.int .u64 (maskL l:Nat),s):=by
 have h:=e_guessOf_l l hl hin s
 rw[show l.foldl orBit 0=maskL l from rfl]at h
 generalize maskL l=m at*
 rw[den_fn t93 _ _ _ rfl]
 simp only[b93]
 simp (disch:=first|omega|assumption|decide +kernel|(simp;done)|(simp;omega)|fail) [h]
end Go.Proofs.YthghcainodgnkaaGreat

/-
  Watch: guess.run.
-/
namespace Go.Proofs.YthghcainodgnkaaGreat
open Go.Ab
theorem shl_word: ∀g:Nat,g<32→IntKind.u64.wrap ((g%2^IntKind.u64.bits&&&(IntKind.u64.wrap ((g:Int)*2)%2^IntKind.u64.bits).toNat:Nat):Int)=((g&&&(g<<<1):Nat):Int):=by decide +kernel
def runD:Nat→Nat→Bool
 |0,g=>g==0
 |f+1,g=>g==0||runD f (g&&&(g<<<1))
theorem runD_all: ∀g,g<32→runD 5 g=true:=by decide +kernel
theorem and_shl_lt: ∀g,g<32→g&&&(g<<<1)<32:=by decide +kernel
theorem e_run_0(c:Nat)(s:Stk):Run T b151l0 [(0, .int .u64 0),(3,i64 (c:Nat))] ([]::s)=some (.exit 0,[(0, .int .u64 0),(3,i64 (c:Nat)),(5, .bool false)],[]::s):=by
 unfold b151l0
 rw[run_head (e':=[(0, .int .u64 0),(3,i64 (c:Nat))]) (s':=[]::s) _ _ _ _ _ (by simp) (by simp)]
 simp (maxSteps:=1000000) (disch:=first|omega|assumption|decide +kernel|(simp;done)|(simp;omega)|fail) []
theorem e_run_s(g:Nat)(hg:g<32)(h0:g≠0)(c:Nat)(hc:c<100)(s:Stk):
 Run T b151l0 [(0, .int .u64 (g:Nat)),(3,i64 (c:Nat))] ([]::s)=Run T b151l0 [(0, .int .u64 (g&&&(g<<<1):Nat)),(3,i64 ((c+1:Nat):Int))] ([]::s):=by
 have h1: ¬(g:Int)=0:=by omega
 conv=>lhs;unfold b151l0
 rw[run_head (e':=[(0, .int .u64 (g:Nat)),(3,i64 (c:Nat))]) (s':=[]::s) _ _ _ _ _ (by simp) (by simp)]
 have:Run T d151l0 [(0, .int .u64 (g:Nat)),(3,i64 (c:Nat))] ([]::s)=some (.normal,[(0, .int .u64 (g&&&(g<<<1):Nat)),(3,i64 ((c+1:Nat):Int))],[]::s):=by
  simp (maxSteps:=1000000) (disch:=first|omega|assumption|decide +kernel|(simp;done)|(simp;omega)|fail) [h1,h0,shl_word g hg,wk c (by omega)]
 rw[this,thenRun_normal]
 rfl
theorem e_run_l(s:Stk): ∀f g,g<32→runD f g=true→ ∀c:Nat,c+f<100→Run T b151l0 [(0, .int .u64 (g:Nat)),(3,i64 (c:Nat))] ([]::s)=some (.exit 0,[(0, .int .u64 0),(3,i64 ((c+runN (f+1) g:Nat):Int)),(5, .bool false)],[]::s)
 |0,g,_,h,c,_=>by
   have:g=0:=by simpa [runD]using h
   subst this
   exact e_run_0 c s
 |f+1,g,hg,h,c,hc=>by
   by_cases h0:g=0
   ·subst h0
    have:runN (f+2) 0=0:=by simp[runN]
    rw[this]
    exact e_run_0 c s
   ·have h2:runD f (g&&&(g<<<1))=true:=by
     simp only[runD,Bool.or_eq_true,beq_iff_eq]at h
     exact h.resolve_left h0
    rw[e_run_s g hg h0 c (by omega) s,e_run_l s f _ (and_shl_lt g hg) h2 (c+1) (by omega)]
    have:runN (f+1+1) g=runN (f+1) (g&&&(g<<<1))+1:=by conv=>lhs;unfold runN;rw[if_neg h0]
    rw[this,show c+1+runN (f+1) (g&&&g<<<1)=c+(runN (f+1) (g&&&g<<<1)+1)by omega]
theorem e_run(g:Nat)(hg:g<32)(lab s):den T 151 [.int .u64 (g:Nat)] lab s=some (i64 (runN 6 g:Nat),s):=by
 have h:=e_run_l s 5 g hg (runD_all g hg) 0 (by omega)
 rw[Nat.zero_add]at h
 generalize runN 6 g=r at*
 simp only[Int.natCast_zero]at h
 rw[den_fn t151 _ _ _ rfl]
 simp only[b151]
 simp (disch:=first|omega|assumption|decide +kernel|(simp;done)|(simp;omega)|fail) [h]
end Go.Proofs.YthghcainodgnkaaGreat

/-
  Watch: how many times a guess has; whether it can be (not built yet).
-/
namespace Go.Proofs.YthghcainodgnkaaGreat
open Go.Ab
set_option maxHeartbeats 1000000 in
theorem e_ones(g:Nat)(hg:g<32)(lab s):den T 150 [.int .u64 (g:Nat)] lab s=some (i64 ((bitsL g).length:Nat),s):=by
 have h1: ∀lab s,den T 162 [.int .u64 (g:Nat)] lab s=some (i64 ((bitsL g).length:Nat),s):=by
  intro lab s
  rw[den_fn t162 _ _ _ rfl]
  simp only[b162]
  simp (maxSteps:=1000000) (disch:=first|omega|assumption|decide +kernel|(simp;done)|(simp;omega)|fail) []
  revert g
  decide +kernel
 rw[den_fn t150 _ _ _ rfl]
 simp only[b150]
 simp (disch:=first|omega|assumption|decide +kernel|(simp;done)|(simp;omega)|fail) [h1]
end Go.Proofs.YthghcainodgnkaaGreat

/-
  Watch: canBe (not built yet).
-/
namespace Go.Proofs.YthghcainodgnkaaGreat
open Go.Ab
abbrev vK(b:WBook)(st:V):List V:=[i64 b.trap.chambers,i64 b.trap.times, .sl .no 1 (es cInts b.trap.opn), .sl .no 4 (es cWord b.trap.words),i64 b.drunk,i64 b.run, .sl .no 1 (es cInt b.sober),st]
theorem and_word: ∀g,g<32→ ∀m,m<32→IntKind.u64.wrap ((g%2^IntKind.u64.bits&&&m%2^IntKind.u64.bits:Nat):Int)=((g&&&m:Nat):Int):=by decide +kernel
theorem maskL_lt5 {l:List Int}(h:l∈allL 5):maskL l<32:=mask_lt 5 (by decide) l h
theorem allL5_in {l:List Int}(h:l∈allL 5):l.length<1000000∧ ∀n,n∈l→0≤n∧n<5:=by
 obtain⟨h1,h2⟩:=allL_mem.1 h
 have:=pair_lenL (lo:=0) h1 h2
 exact⟨by omega,h2⟩
set_option maxHeartbeats 1000000 in
theorem e_canBe(b:WBook)(st:V)(g:Nat)(hg:g<32)(hs5:b.sober∈allL 5)(d l:Nat)(s:Stk)(hd: ¬d=s.length)(h:sget s d l=some (.cell (vK b st)))(lab):
 den T 121 [.ptr d l 0, .int .u64 (g:Nat)] lab s=some (.bool (canG b g),s):=by
 have h1:=fun lab s=>e_ones g hg lab s
 have h2:=fun lab s=>e_run g hg lab s
 obtain⟨q1,q2⟩:=allL5_in hs5
 have h3:=fun lab s=>e_guessOf b.sober q1 q2 lab s
 have hm:=maskL_lt5 hs5
 have hw:=and_word g hg (maskL b.sober) hm
 unfold canG
 rw[den_fn t121 _ _ _ rfl]
 simp only[b121]
 generalize maskL b.sober=m at*
 generalize (bitsL g).length=o at*
 generalize runN 6 g=r at*
 by_cases c1:(o:Int)≤b.drunk
 ·by_cases c2:(r:Int)≤b.run
  ·have c3:(((g&&&m:Nat):Int)=0)=(g&&&m=0):=by simp only[eq_iff_iff];omega
   simp (maxSteps:=1000000) (disch:=first|omega|assumption|decide +kernel|(simp;done)|(simp;omega)|fail) [run_drawnK,orSlow_none,hd,h,h1,h2,h3,hw,c1,c2,c3]
  ·simp (maxSteps:=1000000) (disch:=first|omega|assumption|decide +kernel|(simp;done)|(simp;omega)|fail) [run_drawnK,orSlow_none,hd,h,h1,h2,c1,c2]
 ·simp (maxSteps:=1000000) (disch:=first|omega|assumption|decide +kernel|(simp;done)|(simp;omega)|fail) [run_drawnK,orSlow_none,hd,h,h1,c1]
end Go.Proofs.YthghcainodgnkaaGreat

/-
  Watch: a trap without some words (not built yet).
-/
namespace Go.Proofs.YthghcainodgnkaaGreat
open Go.Ab
def keepW(ws:List CWord)(p:Nat→Bool):List CWord:=((List.range ws.length).filter fun k=> !p k).map fun k=>ws.getD k default
def keepF(ws:List CWord)(p:Nat→Bool)(a:List CWord)(k:Nat):List CWord:=if p k=true then a else a ++[ws.getD k default]
theorem keepF_fold(ws:List CWord)(p:Nat→Bool): ∀(l:List Nat) (a:List CWord),l.foldl (keepF ws p) a=a ++(l.filter fun k=> !p k).map fun k=>ws.getD k default
 |[],a=>by simp
 |k::l,a=>by
   rw[List.foldl_cons,keepF_fold ws p l,List.filter_cons]
   unfold keepF
   cases p k<;>simp
theorem keepW_fold(ws:List CWord)(p:Nat→Bool):(List.range ws.length).foldl (keepF ws p) []=keepW ws p:=by rw[keepF_fold,List.nil_append];rfl
theorem getD_range {α:Type} [Inhabited α](ws:List α):(List.range ws.length).map (fun k=>ws.getD k default)=ws:=by
 refine List.ext_getElem (by simp) fun k h1 h2=> ?_
 simp[List.getD,h2]
theorem keepW_filter(ws:List CWord)(q:CWord→Bool):keepW ws (fun k=>q (ws.getD k default))=ws.filter fun w=> !q w:=by
 unfold keepW
 conv=>rhs;rw[←getD_range ws]
 rw[List.filter_map]
 rfl
theorem keepW_trap(b:WBook)(l:List Int): {b.trap with words:=keepW b.trap.words fun k=>l.contains (b.trap.words.getD k default).time}=trapOf b l:=by
 rw[keepW_filter b.trap.words fun w=>l.contains w.time]
 rfl
def wioF(b:WBook)(d:Nat)(a:List CWord):Ab.Loc:=[(64, .cell [i64 0,i64 0, .sl .full 1 [], .sl .full 4 []]),(80, .cell [i64 b.trap.chambers,i64 b.trap.times, .sl .no 1 (es cInts b.trap.opn), .sl (.own d 85) 4 (es cWord a)]),(85, .tok a.length)]
set_option maxHeartbeats 2000000 in
theorem e_without_l(b:WBook)(hwl:b.trap.words.length<1000000)(f:Nat)(cap:List V)(p:Nat→Bool)(s:Stk)(hc1:V.stripAll cap=cap)(hc2: ∀keep,V.mapAll (dropR s.length keep) cap=cap)
 (hF: ∀k,k<b.trap.words.length→ ∀(L:Ab.Loc) lab,den T f (i64 k::cap) lab (L::s)=some (.bool (p k),L::s)):
 Run T b123l0 [(1, .fn f [] cap),(4, .ptr s.length 64 0),(5, .ptr s.length 80 0),(19, .sl .no 4 (es cWord b.trap.words)),(20,i64 b.trap.words.length),(21,i64 0)] (wioF b s.length []::s)=
  some (.exit 0,[(1, .fn f [] cap),(4, .ptr s.length 64 0),(5, .ptr s.length 80 0),(19, .sl .no 4 (es cWord b.trap.words)),(20,i64 b.trap.words.length),(21,i64 b.trap.words.length),(22, .bool false)],wioF b s.length (keepW b.trap.words p)::s):=by
 have key:=loop_fold (T:=T) (live:=[1,4,5,19,20,21]) (keep:=[64,80,85]) (b:=d123l0) (List.range b.trap.words.length) (fun k (a:List CWord)=>a.length≤k) (keepF b.trap.words p)
  (fun k _=>[(1, .fn f [] cap),(4, .ptr s.length 64 0),(5, .ptr s.length 80 0),(19, .sl .no 4 (es cWord b.trap.words)),(20,i64 b.trap.words.length),(21,i64 (k:Nat))]) (fun _ a=>wioF b s.length a::s)
  (fun a=>(.exit 0,[(1, .fn f [] cap),(4, .ptr s.length 64 0),(5, .ptr s.length 80 0),(19, .sl .no 4 (es cWord b.trap.words)),(20,i64 b.trap.words.length),(21,i64 b.trap.words.length),(22, .bool false)],wioF b s.length a::s))
  (by simp) ?_ ?_ ?_ [] (by simp) [(1, .fn f [] cap),(4, .ptr s.length 64 0),(5, .ptr s.length 80 0),(19, .sl .no 4 (es cWord b.trap.words)),(20,i64 b.trap.words.length),(21,i64 0)] (wioF b s.length []::s) (by simp[hc2]) (by simp[wioF])
 ·rw[keepW_fold]at key
  exact key
 ·intro k a hk hi
  simp only[List.length_range]at hk
  simp only[List.getElem_range]
  have hk2:(k:Int)<b.trap.words.length:=by omega
  have e0: ∀w:CWord,es cWord a ++[[i64 w.time,i64 w.chamber,i64 w.lo,i64 w.hi]]=es cWord (a ++[w]):=fun w=>by simp[es]
  have e1:=e0 b.trap.words[k]
  have eg:b.trap.words.getD k default=b.trap.words[k]:=by simp[List.getD,hk]
  have h1:=hF k hk
  unfold keepF
  rw[eg]
  cases h:p k
  ·rw[h]at h1
   simp (maxSteps:=1000000) (disch:=first|omega|assumption|decide +kernel|(simp;done)|(simp;omega)|fail) [run_drawnK,wioF,hk,hk2,hc1,hc2,h1,e1,appK_own1,wk k (by omega)]
  ·rw[h]at h1
   simp (maxSteps:=1000000) (disch:=first|omega|assumption|decide +kernel|(simp;done)|(simp;omega)|fail) [wioF,hk,hk2,hc1,hc2,h1,wk k (by omega)]
 ·intro k a hk hi
  unfold keepF
  split<;>(try simp only[List.length_append,List.length_cons,List.length_nil])<;>omega
 ·intro a hi
  simp[wioF,hc2]
set_option maxHeartbeats 2000000 in
theorem e_without(b:WBook)(hwl:b.trap.words.length<1000000)(st:V)(d l f:Nat)(cap:List V)(p:Nat→Bool)(s:Stk)(hd: ¬d=s.length)(h:sget s d l=some (.cell (vK b st)))(hc1:V.stripAll cap=cap)(hc2: ∀keep,V.mapAll (dropR s.length keep) cap=cap)
 (hF: ∀k,k<b.trap.words.length→ ∀(L:Ab.Loc) lab,den T f (i64 k::cap) lab (L::s)=some (.bool (p k),L::s)) (lab):
 den T 123 [.ptr d l 0, .fn f [] cap] lab s=some (.agg (vT {b.trap with words:=keepW b.trap.words p}),s):=by
 have key:=e_without_l b hwl f cap p s hc1 hc2 hF
 simp only[wioF,es_nil,List.length_nil]at key
 rw[den_fn t123 _ _ _ rfl]
 simp only[b123]
 simp (maxSteps:=1000000) (disch:=first|omega|assumption|decide +kernel|(simp;done)|(simp;omega)|fail) [hd,h,key]
end Go.Proofs.YthghcainodgnkaaGreat

/-
  Watch: the list of a guess (not built yet).
-/
namespace Go.Proofs.YthghcainodgnkaaGreat
open Go.Ab
def topN(g:Nat):Nat:=((List.range 6).find? fun n=>g>>>n==0).getD 6
def bitF(g:Nat)(a:List Int)(k:Nat):List Int:=if g.testBit k=true then a ++[(k:Int)]else a
theorem top_le: ∀g,g<32→topN g≤5:=by decide +kernel
theorem top_pos: ∀g,g<32→ ∀k,k<topN g→g>>>k≠0:=by
 intro g hg k hk
 have h5:=top_le g hg
 have: ∀g,g<32→ ∀k,k<5→k<topN g→g>>>k≠0:=by decide +kernel
 exact this g hg k (by omega) hk
theorem top_end: ∀g,g<32→g>>>(topN g)=0:=by decide +kernel
theorem top_bits: ∀g,g<32→(List.range (topN g)).foldl (bitF g) []=bitsL g:=by decide +kernel
theorem shr_word {g n:Nat}(hn:n<64):((g:Int)).fdiv (2^min n IntKind.u64.bits)=((g>>>n:Nat):Int):=by
 rw[show min n IntKind.u64.bits=n by have:IntKind.u64.bits=64:=rfl;omega,Nat.shiftRight_eq_div_pow]
 rw[Int.fdiv_eq_ediv_of_nonneg _ (by exact Int.le_of_lt (Int.pow_pos (by decide)))]
 push_cast
 rfl
theorem e0_gHas(g n:Nat)(hg:g<32)(hn:n<64)(lab s):den T0 119 [.int .u64 (g:Nat),i64 n] lab s=some (.bool (g.testBit n),s):=by
 have h1:=shr_word (g:=g) hn
 have h2: ¬(n:Int)<0:=by omega
 rw[den_fn u119 _ _ _ rfl]
 simp only[b119]
 simp (disch:=first|omega|assumption|decide +kernel|(simp;done)|(simp;omega)|fail) [h1,h2]
 have e:((g:Int)>>>n)=((g>>>n:Nat):Int):=rfl
 have hb:g>>>n≤g:=by rw[Nat.shiftRight_eq_div_pow];exact Nat.div_le_self ..
 have hbits:(2:Int)^IntKind.u64.bits=18446744073709551616:=by decide
 have ht:g.testBit n=decide ((g>>>n)%2=1):=by rw[Nat.testBit_eq_decide_div_mod_eq,Nat.shiftRight_eq_div_pow]
 rw[e,ht,hbits]
 generalize g>>>n=h at*
 have e3:max ((h:Int)%18446744073709551616) 0%2=((h%2:Nat):Int):=by omega
 rw[e3]
 rcases Nat.mod_two_eq_zero_or_one h with h0|h0<;>rw[h0]<;>decide
set_option maxHeartbeats 1000000 in
theorem e0_list_l(g:Nat)(hg:g<32)(s:Stk):
 Run T0 b77l0 [(3, .sl (.own s.length 49) 1 []),(0, .int .u64 (g:Nat)),(3, .sl .full 1 []),(4,i64 0)] ([(49, .tok 0)]::s)=
  some (.exit 0,[(0, .int .u64 (g:Nat)),(3, .sl (.own s.length 49) 1 (es cInt (bitsL g))),(4,i64 (topN g:Nat)),(8, .bool false)],[(49, .tok (bitsL g).length)]::s):=by
 have h5:=top_le g hg
 have key:=loop_fold (T:=T0) (live:=[0,3,4]) (keep:=[49]) (b:=d77l0) (List.range (topN g)) (fun k (a:List Int)=>a.length≤k) (bitF g)
  (fun k a=>[(0, .int .u64 (g:Nat)),(3, .sl (.own s.length 49) 1 (es cInt a)),(4,i64 (k:Nat))]) (fun _ a=>[(49, .tok a.length)]::s)
  (fun a=>(.exit 0,[(0, .int .u64 (g:Nat)),(3, .sl (.own s.length 49) 1 (es cInt a)),(4,i64 (topN g:Nat)),(8, .bool false)],[(49, .tok a.length)]::s))
  (by simp) ?_ ?_ ?_ [] (by simp) [(3, .sl (.own s.length 49) 1 []),(0, .int .u64 (g:Nat)),(3, .sl .full 1 []),(4,i64 0)] ([(49, .tok 0)]::s) (by simp) (by simp)
 ·rw[top_bits g hg]at key
  exact key
 ·intro k a hk hi
  simp only[List.length_range]at hk
  simp only[List.getElem_range]
  have h1:=shr_word (g:=g) (n:=k) (by omega)
  have h2: ¬(k:Int)<0:=by omega
  have h3:=top_pos g hg k hk
  have h4:=fun lab s=>e0_gHas g k hg (by omega) lab s
  have e0:es cInt a ++[[i64 (k:Nat)]]=es cInt (a ++[(k:Int)]):=by simp[es]
  have hk9:k<1000:=by omega
  unfold bitF
  generalize g>>>k=x at*
  have h6:0<x:=by omega
  cases hb:g.testBit k
  ·rw[hb]at h4
   simp (maxSteps:=1000000) (disch:=first|omega|assumption|decide +kernel|(simp;done)|(simp;omega)|fail) [h1,h2,h4,h6,wk k (by omega)]
  ·rw[hb]at h4
   simp (maxSteps:=1000000) (disch:=first|omega|assumption|decide +kernel|(simp;done)|(simp;omega)|fail) [h1,h2,h4,h6,e0,appK_own1,wk k (by omega)]
 ·intro k a hk hi
  unfold bitF
  split<;>(try simp only[List.length_append,List.length_cons,List.length_nil])<;>omega
 ·intro a hi
  simp only[List.length_range]
  have h1:=shr_word (g:=g) (n:=topN g) (by omega)
  rw[top_end g hg]at h1
  have h2: ¬(topN g:Int)<0:=by omega
  generalize topN g=n at*
  simp (maxSteps:=1000000) (disch:=first|omega|assumption|decide +kernel|(simp;done)|(simp;omega)|fail) [h1,h2]
theorem e0_list(g:Nat)(hg:g<32)(lab s):den T0 77 [.int .u64 (g:Nat)] lab s=some (.sl .no 1 (es cInt (bitsL g)),s):=by
 have key:=e0_list_l g hg s
 generalize bitsL g=L at*
 generalize topN g=n at*
 rw[den_fn u77 _ _ _ rfl]
 simp only[b77]
 simp (maxSteps:=1000000) (disch:=first|omega|assumption|decide +kernel|(simp;done)|(simp;omega)|fail) [key]
end Go.Proofs.YthghcainodgnkaaGreat

/-
  Watch: the order of stories (computed where no primitive is) (not built yet).
-/
namespace Go.Proofs.YthghcainodgnkaaGreat
open Go.Ab
theorem e0_isNaN(a:Int)(lab s):den T0 173 [i64 a] lab s=some (.bool false,s):=by
 rw[den_fn u173 _ _ _ rfl]
 simp[b173]
def cmpI(a b:Int):Int:=if a<b then -1 else if b<a then 1 else 0
theorem e0_Compare(a b:Int)(lab s):den T0 156 [i64 a,i64 b] lab s=some (i64 (cmpI a b),s):=by
 rw[den_fn u156 _ _ _ rfl]
 simp only[b156,cmpI]
 by_cases h:a<b
 ·simp (disch:=first|omega|assumption|decide +kernel|(simp;done)|(simp;omega)|fail) [h,e0_isNaN]
 ·by_cases h':b<a<;>simp (disch:=first|omega|assumption|decide +kernel|(simp;done)|(simp;omega)|fail) [h,h',e0_isNaN]
theorem e0_Or(a b:Int)(lab s):den T0 136 [.sl .no 1 [[i64 a],[i64 b]]] lab s=some (i64 (if a≠0 then a else b),s):=by
 have hl: ∀s:Stk,Run T0 b136l0 [(3,i64 0),(6, .sl .no 1 (es cInt [a,b])),(7,i64 2),(8,i64 0)] ([]::s)=
  some (foldS (fun(_:Unit) x=>if x≠0 then .inr (.ret,[(2,i64 x)],[]::s)else .inl ()) (fun _=>(.exit 0,[(3,i64 0),(6, .sl .no 1 (es cInt [a,b])),(7,i64 2),(8,i64 2),(9, .bool false)],[]::s)) [a,b] ()):=by
  intro s
  refine loop_list0 (T:=T0) [a,b] (fun k _=>[(3,i64 0),(6, .sl .no 1 (es cInt [a,b])),(7,i64 2),(8,i64 k)]) (fun _ _=>[]::s) _ _ ?_ ?_ (by simp) (by simp) () _ _ (by simp) (by simp)
  ·intro k _ hk
   have hk':k<2:=by simpa using hk
   have e:([a,b]:List Int)[k]? =some [a,b][k]:=by simp
   generalize hx:[a,b][k]=x at e
   have hk2:(k:Int)<2:=by omega
   by_cases h:x=0<;>simp (disch:=first|omega|assumption|decide +kernel|(simp;done)|(simp;omega)|fail) [hk',hk2,h,hx,wk k (by omega),nxt]
  ·intro _ x q h;split at h<;>simp at h;subst h;simp
 rw[den_fn u136 _ _ _ rfl]
 simp only[b136]
 have e2:([[i64 a],[i64 b]]:List (List V))=es cInt [a,b]:=rfl
 rw[e2]
 by_cases h:a=0
 ·subst h
  by_cases h':b=0
  ·subst h';simp (disch:=first|omega|assumption|decide +kernel|(simp;done)|(simp;omega)|fail) [hl,foldS]
  ·simp (disch:=first|omega|assumption|decide +kernel|(simp;done)|(simp;omega)|fail) [hl,h',foldS]
 ·simp (disch:=first|omega|assumption|decide +kernel|(simp;done)|(simp;omega)|fail) [hl,h,foldS]
def cmpStep(a b:List Int)(k:Nat):Option Int:=if b.length≤k then some 1 else if a.getD k 0<b.getD k 0 then some (-1)else if b.getD k 0<a.getD k 0 then some 1 else none
def cmpF(a b:List Int):Int:=match (List.range a.length).findSome? (cmpStep a b)with
 |some n=>n
 |none=>if a.length<b.length then -1 else 0
theorem foldS_some {α ρ:Type}(f:α→Option Int)(g:Int→ρ)(r:ρ): ∀l:List α,foldS (fun(_:Unit) x=>match f x with|some n=> .inr (g n)|none=> .inl ()) (fun _=>r) l ()=match l.findSome? f with|some n=>g n|none=>r
 |[]=>rfl
 |x::l=>by
   simp only[foldS,List.findSome?]
   cases h:f x<;>simp only[]
   exact foldS_some f g r l
theorem e0_cmp_l(a b:List Int)(hb:b.length<4611686018427387904)(ha:a.length<4611686018427387904)(s:Stk):
 Run T0 b137l0 [(0, .sl .no 1 (es cInt a)),(1, .sl .no 1 (es cInt b)),(9, .sl .no 1 (es cInt a)),(10,i64 a.length),(11,i64 0)] ([]::s)=
  some (match (List.range a.length).findSome? (cmpStep a b)with|some n=>(.ret,[(4,i64 n)],[]::s)|none=>(.exit 0,[(0, .sl .no 1 (es cInt a)),(1, .sl .no 1 (es cInt b)),(9, .sl .no 1 (es cInt a)),(10,i64 a.length),(11,i64 a.length),(12, .bool false)],[]::s)):=by
 rw[←foldS_some]
 refine loop_list0 (T:=T0) (List.range a.length) (fun k _=>[(0, .sl .no 1 (es cInt a)),(1, .sl .no 1 (es cInt b)),(9, .sl .no 1 (es cInt a)),(10,i64 a.length),(11,i64 k)]) (fun _ _=>[]::s) _ _ ?_ ?_ (by simp) (by simp) () _ _ (by simp) (by simp)
 ·intro k _ hk
  have hk:k<a.length:=by simpa using hk
  rw[List.getElem_range]
  have e0:a.getD k 0=a[k]:=by simp[List.getD,hk]
  unfold cmpStep
  by_cases h:b.length≤k
  ·have h':(b.length:Int)≤k:=by omega
   simp (disch:=first|omega|assumption|decide +kernel|(simp;done)|(simp;omega)|fail) [hk,h,h',nxt,wk k (by omega)]
  ·have h': ¬(b.length:Int)≤k:=by omega
   have h2:k<b.length:=by omega
   have h3:(k:Int)<b.length:=by omega
   have e1:b.getD k 0=b[k]:=by simp[List.getD,h2]
   rw[e0,e1]
   by_cases h4:a[k]<b[k]
   ·simp (disch:=first|omega|assumption|decide +kernel|(simp;done)|(simp;omega)|fail) [hk,h,h',h2,h3,h4,nxt,wk k (by omega),e0_Compare,cmpI]
   ·by_cases h5:b[k]<a[k]<;>simp (disch:=first|omega|assumption|decide +kernel|(simp;done)|(simp;omega)|fail) [hk,h,h',h2,h3,h4,h5,nxt,wk k (by omega),e0_Compare,cmpI]
 ·intro _ x q h;cases h2:cmpStep a b x<;>simp[h2]at h;subst h;simp
theorem e0_cmpF(a b:List Int)(hb:b.length<4611686018427387904)(ha:a.length<4611686018427387904)(lab s):den T0 137 [.sl .no 1 (es cInt a), .sl .no 1 (es cInt b)] lab s=some (i64 (cmpF a b),s):=by
 have h:=e0_cmp_l a b hb ha
 rw[den_fn u137 _ _ _ rfl]
 simp only[b137,cmpF]
 cases h1:(List.range a.length).findSome? (cmpStep a b)with
 |none=>
   simp only[h1]at h
   by_cases h2:a.length<b.length
   ·have h3:(a.length:Int)<b.length:=by omega
    simp (disch:=first|omega|assumption|decide +kernel|(simp;done)|(simp;omega)|fail) [h,h2,h3]
   ·have h3: ¬(a.length:Int)<b.length:=by omega
    simp (disch:=first|omega|assumption|decide +kernel|(simp;done)|(simp;omega)|fail) [h,h2,h3]
 |some n=>
   simp only[h1]at h
   simp (disch:=first|omega|assumption|decide +kernel|(simp;done)|(simp;omega)|fail) [h]
theorem cmpF_lex: ∀a b,cmpF a b=lexL a b
 |[],b=>by simp[cmpF,lexL]
 |x::a,[]=>by simp[cmpF,lexL,List.range_succ_eq_map,cmpStep]
 |x::a,y::b=>by
   have ih:=cmpF_lex a b
   simp only[lexL,←ih]
   have e: ∀k,cmpStep (x::a) (y::b) (k+1)=cmpStep a b k:=by intro k;simp[cmpStep]
   have e2:cmpStep (x::a) (y::b)∘Nat.succ=cmpStep a b:=by funext k;exact e k
   unfold cmpF
   rw[List.length_cons,List.range_succ_eq_map,List.findSome?_cons,List.findSome?_map,e2]
   simp only[cmpStep,List.length_cons,List.getD_cons_zero]
   by_cases h:x<y
   ·simp[h]
   ·by_cases h':y<x<;>simp[h,h']
def cStory(b:WBook)(g:Nat):List V:= .int .u64 (g:Nat)::vT (trapOf b (bitsL g))
theorem bits_len: ∀g,(bitsL g).length≤5:=fun g=>by
 unfold bitsL
 rw[List.length_map]
 exact Nat.le_trans (List.length_filter_le ..) (by simp)
set_option maxHeartbeats 1000000 in
theorem e0_cmpS(b:WBook)(g h:Nat)(hg:g<32)(hh:h<32)(lab s):den T0 135 [.agg (cStory b g), .agg (cStory b h)] lab s=some (i64 (cmpL (bitsL g) (bitsL h)),s):=by
 have l1:=bits_len g
 have l2:=bits_len h
 have w1:IntKind.i64.wrap (((bitsL g).length:Int)-(bitsL h).length)=((bitsL g).length:Int)-(bitsL h).length:=wi _ (by omega) (by omega)
 have q1:=fun lab s=>e0_list g hg lab s
 have q2:=fun lab s=>e0_list h hh lab s
 have q3:=fun lab s=>e0_cmpF (bitsL g) (bitsL h) (by omega) (by omega) lab s
 unfold cmpL cStory
 rw[←cmpF_lex]
 clear l1 l2
 generalize bitsL g=x at*
 generalize bitsL h=y at*
 generalize trapOf b x=t1 at*
 generalize trapOf b y=t2 at*
 generalize cmpF x y=c at*
 rw[den_fn u135 _ _ _ rfl]
 simp only[b135]
 simp (maxSteps:=1000000) (disch:=first|omega|assumption|decide +kernel|(simp;done)|(simp;omega)|fail) [run_drawnK,orSlow_none,q1,q2,q3,w1,e0_Or]
end Go.Proofs.YthghcainodgnkaaGreat

/-
  Watch: the stories in order.
-/
namespace Go.Proofs.YthghcainodgnkaaGreat
open Go.Ab
theorem cmpV_story(b:WBook)(g h:Nat)(hg:g<32)(hh:h<32):cmpV T0 true 135 [] (cStory b g) (cStory b h)=some (cmpL (bitsL g) (bitsL h)):=by
 simp[cmpV,e0_cmpS,hg,hh]
theorem story_total(b:WBook)(L:List Nat)(h: ∀g∈L,g<32):Total (cmpV T0 true 135 []) (es (cStory b) L) where
 some x hx y hy:=by
  obtain⟨a,ha,rfl⟩:=List.mem_map.1 hx
  obtain⟨c,hc,rfl⟩:=List.mem_map.1 hy
  exact⟨_,cmpV_story b a c (h a ha) (h c hc)⟩
 irr x hx n hn:=by
  obtain⟨a,ha,rfl⟩:=List.mem_map.1 hx
  rw[cmpV_story b a a (h a ha) (h a ha)]at hn
  cases hn;exact cmpL_irr _
 tr x hx y hy z hz m n k:=by
  obtain⟨a,ha,rfl⟩:=List.mem_map.1 hx
  obtain⟨c,hc,rfl⟩:=List.mem_map.1 hy
  obtain⟨e,he,rfl⟩:=List.mem_map.1 hz
  rw[cmpV_story b a c (h a ha) (h c hc),cmpV_story b c e (h c hc) (h e he),cmpV_story b a e (h a ha) (h e he)]
  rintro⟨⟩ ⟨⟩ ⟨⟩
  exact cmpL_trans _ _ _
 tot x hx y hy m n:=by
  obtain⟨a,ha,rfl⟩:=List.mem_map.1 hx
  obtain⟨c,hc,rfl⟩:=List.mem_map.1 hy
  rw[cmpV_story b a c (h a ha) (h c hc),cmpV_story b c a (h c hc) (h a ha)]
  rintro⟨⟩ ⟨⟩ h1 h2
  rw[bits_inj (h a ha) (h c hc) (cmpL_eq _ _ h1 h2)]
def sortG(b:WBook):List Nat:=(storiesL b).map maskL
theorem sortG_bits {b:WBook}(hT:b.T<6):(sortG b).map bitsL=storiesL b:=by
 unfold sortG
 rw[List.map_map]
 conv=>rhs;rw[←List.map_id (storiesL b)]
 refine List.map_congr_left fun l hl=> ?_
 exact bits_mask l (allL_up hT (story_mem.1 hl).1)
theorem guess_lt {b:WBook}(hT:b.T<6) {g:Nat}(hg:g<2^b.T):g<32:=by
 have:2^b.T≤2^5:=Nat.pow_le_pow_right (by omega) (by omega)
 omega
theorem guessL_lt {b:WBook}(hT:b.T<6) {g:Nat}(hg:g∈guessL b):g<32:=by
 simp only[guessL,List.mem_filter,List.mem_range]at hg
 exact guess_lt hT hg.1
theorem sortG_perm {b:WBook}(hT:b.T<6):(sortG b).Perm (guessL b):=by
 have n2:(guessL b).Nodup:=(List.nodup_range).filter _
 have n1:(sortG b).Nodup:=by
  unfold sortG
  refine List.Pairwise.map _ (R:=fun x y=>cmpL x y<0∧x∈storiesL b∧y∈storiesL b) ?_ ?_
  ·rintro x y ⟨h1,h2,h3⟩ e
   have e2:bitsL (maskL x)=bitsL (maskL y):=by rw[e]
   rw[bits_mask x (allL_up hT (story_mem.1 h2).1),bits_mask y (allL_up hT (story_mem.1 h3).1)]at e2
   subst e2
   exact cmpL_irr _ h1
  ·exact List.Pairwise.imp_of_mem (fun h1 h2 h3=>⟨h3,h1,h2⟩) (stories_sorted b)
 refine(List.perm_ext_iff_of_nodup n1 n2).2 fun g=> ?_
 constructor
 ·intro hg
  obtain⟨l,hl,rfl⟩:=List.mem_map.1 hg
  obtain⟨h,h1,h2⟩:=(guess_mem hT).1 hl
  rw[←h2,mask_bits h (guessL_lt hT h1)]
  exact h1
 ·intro hg
  have hl:=(guess_mem hT).2 ⟨g,hg,rfl⟩
  refine List.mem_map.2 ⟨bitsL g,hl,mask_bits g (guessL_lt hT hg)⟩
theorem story_sortedBy {b:WBook}(hT:b.T<6):SortedBy (cmpV T0 true 135 []) (es (cStory b) (guessL b)) (es (cStory b) (sortG b)):=by
 refine⟨(sortG_perm hT).map _,?_⟩
 unfold es
 rw[List.pairwise_map]
 unfold sortG
 rw[List.pairwise_map]
 refine List.Pairwise.imp_of_mem ?_ (stories_sorted b)
 intro x y hx hy hxy n hn
 have ex:=bits_mask x (allL_up hT (story_mem.1 hx).1)
 have ey:=bits_mask y (allL_up hT (story_mem.1 hy).1)
 rw[cmpV_story b _ _ (guess_lt hT (mask_lt _ hT _ (story_mem.1 hy).1)) (guess_lt hT (mask_lt _ hT _ (story_mem.1 hx).1)),ex,ey]at hn
 cases hn
 intro h
 exact cmpL_irr _ (cmpL_trans _ _ _ hxy h)
theorem sortG_length {b:WBook}(hT:b.T<6):(guessL b).length=(sortG b).length:=(sortG_perm hT).length_eq.symm
theorem sortG_nil {b:WBook}(hT:b.T<6):guessL b=[]↔sortG b=[]:=by
 rw[←List.length_eq_zero_iff,sortG_length hT,List.length_eq_zero_iff]
theorem cStory_ok(b:WBook)(g:Nat):V.elemAll (cStory b g)=true∧(cStory b g).length=5:=by simp[cStory]
theorem e_sortS {b:WBook}(hT:b.T<6)(hne:guessL b≠[])(d:Nat)(lab:Nat)(s:Stk)(hg:sget s d 121=some (.arr 5 (es (cStory b) (guessL b)))):
 den T 134 [.asl d 121 5 (guessL b).length 0 (guessL b).length, .fn 135 [] []] lab s=some (.tup [],sput s d 121 (.arr 5 (es (cStory b) (sortG b)))):=by
 rw[den_prim t134]
 have hlen:0<(guessL b).length:=List.length_pos_iff.2 hne
 have hlt:(guessL b).length≤2^b.T:=by
  have:=List.length_filter_le (fun g=>storyB b (bitsL g)) (List.range (2^b.T))
  simpa [guessL]using this
 have hp:2^b.T≤2^5:=Nat.pow_le_pow_right (by omega) (by omega)
 have hq:sortQ [.asl d 121 5 (guessL b).length 0 (guessL b).length, .fn 135 [] []] lab s=sortP [.asl d 121 5 (guessL b).length 0 (guessL b).length, .fn 135 [] []] lab s:=by
  unfold sortQ
  generalize (guessL b).length=n at*
  split
  ·rename_i h
   simp at h;omega
  ·rfl
 rw[hq]
 unfold sortP
 rw[sortFPK_eq]
 have:=sortFP_eq (T0:=T0) (agg:=true) (d:=d) (l:=121) (sz:=5) (n:=(guessL b).length) (g:=135) (cap:=[]) (lab:=lab) (s:=s)
  (x:= .arr 5 (es (cStory b) (guessL b))) (es:=es (cStory b) (guessL b)) (r:=es (cStory b) (sortG b)) hg rfl (by simp) (fun h=>by cases h) (by simpa using hne) (by simp;omega)
  (by intro x hx;obtain⟨a,_,rfl⟩:=List.mem_map.1 hx;exact(cStory_ok b a).1) rfl (story_total b _ fun g hg=>guessL_lt hT hg) (story_sortedBy hT)
 rw[this]
 rfl
end Go.Proofs.YthghcainodgnkaaGreat

/-
  Watch: a guess's trap (not built yet).
-/
namespace Go.Proofs.YthghcainodgnkaaGreat
open Go.Ab
theorem keepW_congr {ws:List CWord} {p q:Nat→Bool}(h: ∀k,k<ws.length→p k=q k):keepW ws p=keepW ws q:=by
 unfold keepW
 congr 1
 refine List.filter_congr fun k hk=> ?_
 rw[h k (List.mem_range.1 hk)]
theorem bits_contains(g:Nat)(n:Nat)(hn:n<5):(bitsL g).contains (n:Int)=g.testBit n:=by
 rw[Bool.eq_iff_iff,List.contains_eq_mem,decide_eq_true_eq]
 simp only[bitsL,List.mem_map,List.mem_filter,List.mem_range]
 constructor
 ·rintro⟨k,⟨_,h⟩,e⟩
  rw[show n=k by omega];exact h
 ·intro h;exact⟨n,⟨hn,h⟩,rfl⟩
theorem keepW_bits {b:WBook}(h:bookB b=true)(g:Nat): {b.trap with words:=keepW b.trap.words fun k=>g.testBit (b.trap.words.getD k default).time.toNat}=trapOf b (bitsL g):=by
 rw[←keepW_trap b (bitsL g)]
 refine congrArg (fun ws=>({b.trap with words:=ws}:CTrap)) (keepW_congr fun k hk=> ?_)
 have hok:=bookB_ok h
 have hw:=wordOk_iff.1 (hok.trap.word _ (List.getElem_mem hk))
 have ht:=hok.trap.tt
 have e:b.trap.words.getD k default=b.trap.words[k]:=by simp[List.getD,hk]
 rw[e]
 have:=bits_contains g b.trap.words[k].time.toNat (by omega)
 rw[←this]
 congr 1
 omega
theorem e_read1(b:WBook)(g:Nat)(hg:g<32)(d:Nat)(S:Stk)(h1:sget S d 128=some (.cell [.int .u64 (g:Nat)]))(h2:sget S d 32=some (.cell (vB b)))(hd: ¬d=S.length)(k:Nat)(hk:k<b.trap.words.length)(ht:0≤b.trap.words[k].time∧b.trap.words[k].time<5)(lab):
 den T 133 [i64 k, .ptr d 128 0, .ptr d 32 0] lab S=some (.bool (g.testBit (b.trap.words.getD k default).time.toNat),S):=by
 have e:b.trap.words.getD k default=b.trap.words[k]:=by simp[List.getD,hk]
 rw[e]
 generalize hw:b.trap.words[k]=w at*
 obtain⟨w0,w1,w2,w3⟩:=w
 dsimp only at ht⊢
 obtain⟨n,rfl⟩: ∃n:Nat,w0=n:=⟨w0.toNat,by omega⟩
 have hh:=fun lab s=>e_gHas g n hg (by omega) lab s
 simp only[Int.toNat_natCast]
 rw[den_fn t133 _ _ _ rfl]
 simp only[b133]
 simp (maxSteps:=1000000) (disch:=first|omega|assumption|decide +kernel|(simp;done)|(simp;omega)|fail) [run_drawnK,orSlow_none,hd,h1,h2,hk,hw,hh]
theorem oneT_truth {t:CTrap}(h:trapB t=true):decide (openT t true=0)=isOneB t:=by
 rw[openT_of h]
 cases isOneB t<;>simp
def storyF(b:WBook)(a:List Nat)(g:Nat):List Nat:=if storyB b (bitsL g)=true then a ++[g]else a
theorem storyF_fold(b:WBook): ∀(l a:List Nat),l.foldl (storyF b) a=a ++l.filter fun g=>storyB b (bitsL g)
 |[],a=>by simp
 |g::l,a=>by
   rw[List.foldl_cons,storyF_fold b l,List.filter_cons]
   unfold storyF
   cases storyB b (bitsL g)<;>simp
def rdF(b:WBook)(d:Nat)(a:List Nat):Ab.Loc:=[(32, .cell (vB b)),(304, .cell (vK b (.asl d 121 5 a.length 0 a.length))),(121, .arr 5 (es (cStory b) a))]
theorem wu {k:Nat}(h:k<1000):IntKind.u64.wrap ((k:Int)+1)=((k+1:Nat):Int):=by
 have:IntKind.u64.wrap ((k:Int)+1)=((k:Int)+1)%18446744073709551616:=rfl
 rw[this];omega
end Go.Proofs.YthghcainodgnkaaGreat

/-
  Watch: the stories one by one (not built yet).
-/
namespace Go.Proofs.YthghcainodgnkaaGreat
open Go.Ab
@[simp] theorem map_cStory_d(b:WBook)(d keep l):(es (cStory b) l).map (V.mapAll (dropR d keep))=es (cStory b) l:=es_map _ _ (fun _=>by simp[cStory]) _
@[simp] theorem map_cStory_f(b:WBook)(d k z e l):(es (cStory b) l).map (V.mapAll (frzR d k z e))=es (cStory b) l:=es_map _ _ (fun _=>by simp[cStory]) _
@[simp] theorem map_cStory_r(b:WBook)(own d loc ls d' lab l):(es (cStory b) l).map (V.mapAll (renR own d loc ls d' lab))=es (cStory b) l:=es_map _ _ (fun _=>by cases own<;>simp[cStory]<;>rfl) _
@[simp] theorem strip_cStory(b:WBook)(l):(es (cStory b) l).map V.stripAll=es (cStory b) l:=es_strip _ (fun _=>by simp[cStory]) _
@[simp] theorem refs_cStory(b:WBook)(own:Bool)(d:Nat)(l):(es (cStory b) l).flatMap (V.refsAll own d)=[]:=es_refs _ _ _ (fun _=>by cases own<;>simp[cStory,V.refs,Cap.refs]) _
@[simp] theorem elems_cStory(b:WBook)(l):elemsOk (es (cStory b) l) 5=true:=elemsOk_es _ _ (fun _=>by simp[cStory]) _
def addR:AC:=(.region true (spl [⟨(some 36), .mv (.t 7),none,[],[121,888888]⟩,⟨(some 37), .mv (.t 7),none,[],[]⟩,⟨(some 38), .nilck (.t 37),none,[1],[]⟩,⟨(some 39), .faddr 7 (.t 38),none,[2,1],[]⟩,⟨(some 40), .load none (.t 39),none,[3,2,1],[]⟩,⟨(some 41), .load none (.t 8),none,[],[]⟩,⟨(some 42), .load (some 4) (.t 9),none,[],[]⟩,⟨(some 43), .build [(.int .u64 0),(i64 0),(i64 0),(.sl .full 1 []),(.sl .full 4 [])] [(0,1,(.t 41)),(1,4,(.t 42))],none,[5,6],[]⟩,⟨(some 44), .lit [(.int .u64 0),(i64 0),(i64 0),(.sl .full 1 []),(.sl .full 4 [])] 1 [(0,(.t 43))],none,[7,5,6],[]⟩,⟨(some 45), .app 5 72 (.t 40) (.t 44),none,[4,8,3,2,1,7,5,6],[]⟩] [⟨(some 46), .nilck (.t 36),none,[0,9,4,8,3,2,1,7,5,6],[]⟩,⟨(some 47), .faddr 7 (.t 46),none,[10,0,9,4,8,3,2,1,7,5,6],[]⟩,⟨none, .store 1 (.t 47) (.t 45),none,[11,10,0,9,4,8,3,2,1,7,5,6],[]⟩]) [2,7,23,24])
theorem d_read_l0:d89l0= .seq (.region false [⟨(some 25), .bin .lss (.t 24) (.t 23),none,[],[]⟩] [2,7,23,24,25]) (.seq (.cond (.t 25) ( .skip) ( .exit 0)) (.seq (.block 1 (.seq (.region false [⟨(some 26), .mv (.t 24),none,[],[]⟩,⟨(some 8), .alloc [(.int .u64 0)],none,[],[]⟩,⟨none, .store 1 (.t 8) (.t 26),none,[],[]⟩] [2,7,8,23,24]) (.seq (.seq ( .region false [⟨(some 27), .mv (.t 7),none,[],[]⟩,⟨(some 28), .load none (.t 8),none,[],[]⟩,⟨(some 29), .call 121 [(.t 27),(.t 28)],none,[],[]⟩,⟨(some 30), .un .not (.t 29),none,[],[]⟩] [2,7,8,23,24,30]) ( .cond (.t 30) ( .exit 1) ( .skip))) (.seq (.region false [⟨(some 31), .mv (.t 7),none,[],[]⟩,⟨(some 32), .mkfn 133 [] [(.t 8),(.t 2)],none,[],[]⟩,⟨(some 33), .call 123 [(.t 31),(.t 32)],none,[],[]⟩,⟨(some 9), .alloc [(i64 0),(i64 0),(.sl .full 1 []),(.sl .full 4 [])],none,[],[]⟩,⟨none, .store 4 (.t 9) (.t 33),none,[],[]⟩] [2,7,8,9,23,24]) (.seq (.region false [⟨(some 34), .load (some 4) (.t 9),none,[],[]⟩,⟨(some 35), .call 122 [(.t 34)],none,[],[]⟩] [2,7,8,9,23,24,35]) (.cond (.t 35) addR .skip)))))) (.region false [⟨(some 48), .bin .add (.t 24) (.c (.int .u64 1)),none,[],[]⟩,⟨(some 24), .mv (.t 48),none,[],[]⟩] [2,7,23,24]))):=rfl
set_option maxHeartbeats 4000000 in
theorem e_addR(b:WBook)(s:Stk)(a:List Nat)(k:Nat)(t2:CTrap)(N:Nat)(e0:es (cStory b) a ++[[.int .u64 (k:Nat),i64 t2.chambers,i64 t2.times, .sl .no 1 (es cInts t2.opn), .sl .no 4 (es cWord t2.words)]]=es (cStory b) (a ++[k]))(q1:(a.length+1)*72≤140737488355328)(q2:a.length+1<140737488355328):
 Run T addR [(2, .ptr s.length 32 0),(7, .ptr s.length 304 0),(8, .ptr s.length 128 0),(9, .ptr s.length 144 0),(23, .int .u64 (N:Nat)),(24, .int .u64 (k:Nat)),(35, .bool true)] ([(32, .cell (vB b)),(304, .cell (vK b (.asl s.length 121 5 a.length 0 a.length))),(121, .arr 5 (es (cStory b) a)),(128, .cell [.int .u64 (k:Nat)]),(144, .cell (vT t2))]::s)=
  some (.normal,[(2, .ptr s.length 32 0),(7, .ptr s.length 304 0),(23, .int .u64 (N:Nat)),(24, .int .u64 (k:Nat))],[(32, .cell (vB b)),(304, .cell (vK b (.asl s.length 121 5 (a ++[k]).length 0 (a ++[k]).length))),(121, .arr 5 (es (cStory b) (a ++[k]))),(128, .cell [.int .u64 (k:Nat)]),(144, .cell (vT t2))]::s):=by
 unfold addR
 simp (maxSteps:=6000000) (disch:=first|omega|assumption|decide +kernel|(simp;done)|(simp;omega)|fail) [run_drawnK,q1,q2,appDA_one]
 exact e0
end Go.Proofs.YthghcainodgnkaaGreat

/-
  Watch: the stories one by one, whole (not built yet).
-/
namespace Go.Proofs.YthghcainodgnkaaGreat
open Go.Ab
set_option maxHeartbeats 4000000 in
theorem e_read_l(b:WBook)(hB:bookB b=true)(hc:CopyB b)(s:Stk):
 Run T b89l0 [(2, .ptr s.length 32 0),(7, .ptr s.length 304 0),(23, .int .u64 ((2^b.T:Nat):Int)),(24, .int .u64 0)] (rdF b s.length []::s)=
  some (.exit 0,[(2, .ptr s.length 32 0),(7, .ptr s.length 304 0),(23, .int .u64 ((2^b.T:Nat):Int)),(24, .int .u64 ((2^b.T:Nat):Int)),(25, .bool false)],rdF b s.length (guessL b)::s):=by
 have hok:=bookB_ok hB
 have ht:=bookB_trap hB
 have hT:=hok.t6
 have hp:2^b.T≤2^5:=Nat.pow_le_pow_right (by omega) (by omega)
 have key:=loop_fold (T:=T) (live:=[2,7,23,24]) (keep:=[32,121,304]) (b:=d89l0) (List.range (2^b.T)) (fun k (a:List Nat)=>a.length≤k) (storyF b)
  (fun k _=>[(2, .ptr s.length 32 0),(7, .ptr s.length 304 0),(23, .int .u64 ((2^b.T:Nat):Int)),(24, .int .u64 (k:Nat))]) (fun _ a=>rdF b s.length a::s)
  (fun a=>(.exit 0,[(2, .ptr s.length 32 0),(7, .ptr s.length 304 0),(23, .int .u64 ((2^b.T:Nat):Int)),(24, .int .u64 ((2^b.T:Nat):Int)),(25, .bool false)],rdF b s.length a::s))
  (by simp) ?_ ?_ ?_ [] (by simp) [(2, .ptr s.length 32 0),(7, .ptr s.length 304 0),(23, .int .u64 ((2^b.T:Nat):Int)),(24, .int .u64 0)] (rdF b s.length []::s) (by simp) (by simp[rdF])
 ·rw[storyF_fold,List.nil_append]at key
  exact key
 ·intro k a hk hi
  simp only[List.length_range]at hk
  simp only[List.getElem_range]
  have hk32:k<32:=by omega
  have hs5:=allL_up hT hok.sober
  have eg:=canG_eq (g:=k) hok.run.1 hs5 hk32
  have h1:=fun(F:Ab.Loc) (hF:F.get 304=some (.cell (vK b (.asl s.length 121 5 a.length 0 a.length)))) lab=>e_canBe b (.asl s.length 121 5 a.length 0 a.length) k hk32 hs5 s.length 304 (F::s) (by simp) (by simp[hF]) lab
  rw[eg]at h1
  have hwt: ∀j (hj:j<b.trap.words.length),0≤b.trap.words[j].time∧b.trap.words[j].time<5:=fun j hj=>by
   have hw:=wordOk_iff.1 (hok.trap.word _ (List.getElem_mem hj))
   have:=hok.trap.tt
   omega
  have h2:=fun(F:Ab.Loc) (hF:F.get 304=some (.cell (vK b (.asl s.length 121 5 a.length 0 a.length)))) (hF1:F.get 128=some (.cell [.int .u64 (k:Nat)])) (hF2:F.get 32=some (.cell (vB b))) lab=>
   e_without b hc.trap.words (.asl s.length 121 5 a.length 0 a.length) s.length 304 133 [.ptr s.length 128 0, .ptr s.length 32 0] (fun j=>k.testBit (b.trap.words.getD j default).time.toNat) (F::s) (by simp) (by simp[hF]) (by simp) (by intro keep;simp)
    (fun j hj L lab=>e_read1 b k hk32 s.length (L::F::s) (by simp[hF1]) (by simp[hF2]) (by simp;omega) j hj (hwt j hj) lab) lab
  rw[keepW_bits hB k]at h2
  have hsh:ShortT (trapOf b (bitsL k)):=⟨by have:=hc.trap.opn;show b.trap.opn.length<_;omega,by have:=hc.trap.words;have:=List.length_filter_le (fun w:CWord=> !(bitsL k).contains w.time) b.trap.words;show(b.trap.words.filter _).length<_;omega,fun l hl=>trapOf_open hB _ l hl⟩
  have h3:=fun lab s=>e_hasTruth (trapOf b (bitsL k)) hsh lab s
  rw[oneT_truth (trapB_less ht (bitsL k))]at h3
  have e0:es (cStory b) a ++[.int .u64 (k:Nat)::vT (trapOf b (bitsL k))]=es (cStory b) (a ++[k]):=by simp[es,cStory]
  have hk2:(k:Int)<((2^b.T:Nat):Int):=by omega
  have hw:=wu (k:=k) (by omega)
  have q1:(a.length+1)*72≤140737488355328:=by omega
  have q2:a.length+1<140737488355328:=by omega
  unfold storyF storyB
  clear eg hwt hsh hp
  rw[d_read_l0]
  generalize isOneB (trapOf b (bitsL k))=o at*
  generalize canB b (bitsL k)=c at*
  generalize trapOf b (bitsL k)=t2 at*
  generalize 2^b.T=N at*
  cases c
  ·simp (maxSteps:=1000000) (disch:=first|omega|assumption|decide +kernel|(simp;done)|(simp;omega)|fail) [rdF,hk2,h1,hw]
  ·cases o
   ·simp (maxSteps:=1000000) (disch:=first|omega|assumption|decide +kernel|(simp;done)|(simp;omega)|fail) [rdF,hk2,h1,h2,h3,hw]
   ·have h4:=e_addR b s a k t2 N e0 q1 q2
    simp (maxSteps:=1000000) (disch:=first|omega|assumption|decide +kernel|(simp;done)|(simp;omega)|fail) [rdF,hk2,h1,h2,h3,hw,h4]
 ·intro k a hk hi
  unfold storyF
  split<;>(try simp only[List.length_append,List.length_cons,List.length_nil])<;>omega
 ·intro a hi
  simp only[List.length_range]
  generalize 2^b.T=N at*
  simp[rdF]
end Go.Proofs.YthghcainodgnkaaGreat

/-
  Watch: the sort of no stories; the sort, whole (not built yet).
-/
namespace Go.Proofs.YthghcainodgnkaaGreat
open Go.Ab
set_option maxRecDepth 100000 in
theorem v_Len64(lab s):den TE 172 [.int .u64 0] lab s=some (i64 0,s):=by
 rw[den_fn v172 _ _ _ rfl]
 delta b172
 have w8:IntKind.u8.wrap 0=0:=by decide
 have w0:IntKind.i64.wrap 0=0:=by decide
 simp (maxSteps:=1000000) (disch:=first|omega|assumption|decide +kernel|(simp;done)|(simp;omega)|fail) [w8,w0]
theorem v_Len(lab s):den TE 155 [.int .u64 0] lab s=some (i64 0,s):=by
 rw[den_fn v155 _ _ _ rfl]
 simp only[b155]
 simp (maxSteps:=1000000) (disch:=first|omega|assumption|decide +kernel|(simp;done)|(simp;omega)|fail) [v_Len64]
theorem v_ins(d:Nat)(S:Stk)(hd:d<S.length)(lab):den TE 163 [.asl d 121 5 0 0 0,i64 0,i64 0, .fn 135 [] []] lab S=some (.tup [],S):=by
 have h1: ¬d=S.length:=by omega
 rw[den_fn v163 _ _ _ rfl]
 simp only[b163,b163l0]
 simp (maxSteps:=1000000) (disch:=first|omega|assumption|decide +kernel|(simp;done)|(simp;omega)|fail) [run_loop,h1,wi]
theorem v_pdq(d:Nat)(S:Stk)(hd:d<S.length)(lab):den TE 154 [.asl d 121 5 0 0 0,i64 0,i64 0,i64 0, .fn 135 [] []] lab S=some (.tup [],S):=by
 have h1: ¬d=S.length:=by omega
 have h2:=fun(F:Ab.Loc) lab=>v_ins d (F::S) (by simp;omega) lab
 rw[den_fn v154 _ _ _ rfl]
 simp only[b154,b154l0]
 simp (maxSteps:=1000000) (disch:=first|omega|assumption|decide +kernel|(simp;done)|(simp;omega)|fail) [run_loop,h1,h2,wi]
theorem v_sort(d:Nat)(S:Stk)(hd:d<S.length)(hs:sget S d 121=some (.arr 5 []))(lab):den TE 134 [.asl d 121 5 0 0 0, .fn 135 [] []] lab S=some (.tup [],S):=by
 have h1: ¬d=S.length:=by omega
 have h2:=fun(F:Ab.Loc) lab=>v_pdq d (F::S) (by simp;omega) lab
 have w0:IntKind.u64.wrap 0=0:=by decide
 rw[den_fn v134 _ _ _ rfl]
 simp only[b134]
 simp (maxSteps:=1000000) (disch:=first|omega|assumption|decide +kernel|(simp;done)|(simp;omega)|fail) [h1,h2,hs,w0,v_Len]
theorem e_sortR {b:WBook}(hT:b.T<6)(lab:Nat)(s:Stk):
 den T 134 [.asl s.length 121 5 (guessL b).length 0 (guessL b).length, .fn 135 [] []] lab (rdF b s.length (guessL b)::s)=some (.tup [],rdF b s.length (sortG b)::s):=by
 by_cases h:guessL b=[]
 ·have h2:=(sortG_nil hT).1 h
  rw[h,h2]
  rw[den_prim t134]
  have:=v_sort s.length (rdF b s.length []::s) (by simp) (by simp[rdF]) lab
  unfold sortQ
  simpa using this
 ·have:=e_sortS hT h s.length lab (rdF b s.length (guessL b)::s) (by simp[rdF])
  rw[this]
  have e:=sortG_length hT
  simp[rdF,e]
end Go.Proofs.YthghcainodgnkaaGreat

/-
  Watch: read, told (not built yet).
-/
namespace Go.Proofs.YthghcainodgnkaaGreat
open Go.Ab
abbrev stG(b:WBook):V:= .sl .no 5 (es (cStory b) (sortG b))
theorem pow_u64: ∀T,T<6→IntKind.u64.wrap (2^min T IntKind.u64.bits)=((2^T:Nat):Int):=by decide +kernel
set_option maxHeartbeats 2000000 in
theorem e_read_no(b:WBook)(hc:CopyB b)(is:Bool)(h:ask11 b is≠0)(lab s):den T 89 [.agg (vB b), .bool is] lab s=some (.tup [.nilp,i64 (ask11 b is)],s):=by
 have h1:=fun lab s=>e_CheckW b hc lab s
 unfold ask11 at h⊢
 rw[den_fn t89 _ _ _ rfl]
 simp only[b89]
 cases c:bookB b
 ·simp (maxSteps:=1000000) (disch:=first|omega|assumption|decide +kernel|(simp;done)|(simp;omega)|fail) [h1,c]
 ·cases is
  ·simp (maxSteps:=1000000) (disch:=first|omega|assumption|decide +kernel|(simp;done)|(simp;omega)|fail) [h1,c]
  ·rw[c]at h;simp at h
set_option maxHeartbeats 4000000 in
theorem e_read(b:WBook)(hB:bookB b=true)(hc:CopyB b)(loc:Ab.Loc)(s:Stk)(lab)(k0:loc.get lab=none):
 den T 89 [.agg (vB b), .bool true] lab (loc::s)=some (.tup [.ptr s.length lab 0,i64 0],loc.put lab (.cell (vK b (stG b)))::s):=by
 have hok:=bookB_ok hB
 have hT:=hok.t6
 have htt:=hok.trap.tt
 have h1:=fun lab s=>e_CheckW b hc lab s
 have h2:=e_read_l b hB hc (loc::s)
 have h3:=fun lab=>e_sortR hT lab (loc::s)
 have eT:b.trap.times=((b.T:Nat):Int):=by have:b.T=b.trap.times.toNat:=rfl;omega
 have w1:=pow_u64 b.T hT
 have hn: ¬((b.T:Nat):Int)<0:=by omega
 rw[hB]at h1
 simp only[rdF,List.length_cons,es_nil,List.length_nil]at h2 h3
 rw[←eT]at hn
 unfold stG
 generalize guessL b=A at*
 generalize sortG b=B at*
 generalize (2:Nat)^b.T=N at*
 have e9:min b.trap.times.toNat IntKind.u64.bits=min b.T IntKind.u64.bits:=rfl
 rw[den_fn t89 _ _ _ rfl]
 simp only[b89]
 simp (maxSteps:=6000000) (disch:=first|omega|assumption|decide +kernel|(simp;done)|(simp;omega)|fail) [h1,h2,h3,hn,e9,w1,k0]
end Go.Proofs.YthghcainodgnkaaGreat

/-
  Watch: told (not built yet).
-/
namespace Go.Proofs.YthghcainodgnkaaGreat
open Go.Ab
theorem sortG_nil2(b:WBook):sortG b=[]↔storiesL b=[]:=by unfold sortG;exact List.map_eq_nil_iff
theorem sortG_len2(b:WBook):(sortG b).length=(storiesL b).length:=by unfold sortG;exact List.length_map ..
set_option maxHeartbeats 4000000 in
theorem e_told_no(b:WBook)(hc:CopyB b)(is:Bool)(h:open11 b is≠0)(lab s):den T 76 [.agg (vB b), .bool is] lab s=some (.tup [.nilp,i64 (open11 b is)],s):=by
 unfold open11 at h⊢
 by_cases h0:ask11 b is=0
 ·obtain⟨hB,rfl⟩:=ask11_ok h0
  rw[if_pos h0]at h⊢
  have hn:storiesL b=[]:=by by_cases e:storiesL b=[];exact e;rw[if_neg e]at h;exact absurd rfl h
  have h2:=fun(F:Ab.Loc) lab k0=>e_read b hB hc F s lab k0
  unfold stG at h2
  rw[(sortG_nil2 b).2 hn]at h2
  rw[if_pos hn]
  rw[den_fn t76 _ _ _ rfl]
  simp only[b76]
  simp (maxSteps:=6000000) (disch:=first|omega|assumption|decide +kernel|(simp;done)|(simp;omega)|fail) [h2]
 ·have h1:=fun lab s=>e_read_no b hc is h0 lab s
  rw[if_neg h0]at h⊢
  rw[den_fn t76 _ _ _ rfl]
  simp only[b76]
  simp (maxSteps:=6000000) (disch:=first|omega|assumption|decide +kernel|(simp;done)|(simp;omega)|fail) [h1,h0]
set_option maxHeartbeats 4000000 in
theorem e_told(b:WBook)(hc:CopyB b)(is:Bool)(h:open11 b is=0)(loc:Ab.Loc)(s:Stk)(lab)(k0:loc.get lab=none):
 den T 76 [.agg (vB b), .bool is] lab (loc::s)=some (.tup [.ptr s.length lab 0,i64 0],loc.put lab (.cell (vK b (stG b)))::s):=by
 obtain⟨hB,rfl,hn⟩:=open11_ok h
 have h2:=fun(F:Ab.Loc) lab k0=>e_read b hB hc F (loc::s) lab k0
 have hne: ¬(sortG b).length=0:=by rw[sortG_len2];simpa using hn
 unfold stG at h2⊢
 generalize sortG b=G at*
 rw[den_fn t76 _ _ _ rfl]
 simp only[b76]
 simp (maxSteps:=6000000) (disch:=first|omega|assumption|decide +kernel|(simp;done)|(simp;omega)|fail) [h2,hne,k0]
end Go.Proofs.YthghcainodgnkaaGreat

/-
  Watch: Good (not built yet).
-/
namespace Go.Proofs.YthghcainodgnkaaGreat
open Go.Ab
theorem e_Good1(b:WBook)(g:Nat)(l:List Int)(hl:l.length<1000000)(hin: ∀n,n∈l→0≤n∧n<5)(d k:Nat)(s:Stk)(h:sget s d k=some (.cell [.sl .no 1 (es cInt l)]))(hd: ¬d=s.length)(lab):
 den T 92 [.agg (cStory b g), .ptr d k 0] lab s=some (.bool (decide (g=maskL l)),s):=by
 have h1:=fun lab s=>e_guessOf l hl hin lab s
 unfold cStory
 generalize trapOf b (bitsL g)=t2 at*
 generalize maskL l=m at*
 rw[den_fn t92 _ _ _ rfl]
 simp only[b92]
 by_cases e:g=m
 ·subst e
  simp (maxSteps:=1000000) (disch:=first|omega|assumption|decide +kernel|(simp;done)|(simp;omega)|fail) [h,hd,h1]
 ·have e2: ¬(g:Int)=m:=by omega
  simp (maxSteps:=1000000) (disch:=first|omega|assumption|decide +kernel|(simp;done)|(simp;omega)|fail) [h,hd,h1,e,e2]
theorem e_IndexS_l(b:WBook)(G:List Nat)(l:List Int)(hl:l.length<1000000)(hin: ∀n,n∈l→0≤n∧n<5)(d k:Nat)(s:Stk)(h:sget s d k=some (.cell [.sl .no 1 (es cInt l)]))(hd:d<s.length)(hG:G.length<1000000):
 ∃g:Nat,Run T b138l0 [(0, .sl .no 5 (es (cStory b) G)),(1, .fn 92 [] [.ptr d k 0]),(7,i64 G.length),(8,i64 0)] ([]::s)=
  if allB (fun w=> !decide (w=maskL l)) G=true then some (.exit 0,[(0, .sl .no 5 (es (cStory b) G)),(1, .fn 92 [] [.ptr d k 0]),(7,i64 G.length),(8,i64 G.length),(9, .bool false)],[]::s)else some (.ret,[(4,i64 (g:Nat))],[]::s):=by
 have hd2: ¬d=s.length:=by omega
 have hd3: ¬d=s.length+1:=by omega
 have hc: ∀(w:Nat) lab,den T 92 [.agg (cStory b w), .ptr d k 0] lab ([]::s)=some (.bool (decide (w=maskL l)),[]::s):=fun w lab=>e_Good1 b w l hl hin d k ([]::s) (by simp[hd2,h]) (by simp;omega) lab
 refine loop_all_g G (fun w=> !decide (w=maskL l)) (fun k2=>[(0, .sl .no 5 (es (cStory b) G)),(1, .fn 92 [] [.ptr d k 0]),(7,i64 G.length),(8,i64 k2)]) (fun _=>[]::s) (fun g:Nat=>(.ret,[(4,i64 (g:Nat))],[]::s)) _ (by simp) (by simp[hd2]) ?_ (by simp) _ _ (by simp[hd2]) (by simp)
 intro k2 hk
 refine⟨k2,?_⟩
 have hk2:(k2:Int)<G.length:=by omega
 have hc2:=fun lab=>hc G[k2] lab
 simp only[cStory]at hc2
 have hx:cStory b G[k2]= .int .u64 (G[k2]:Nat)::vT (trapOf b (bitsL G[k2])):=rfl
 generalize maskL l=m at*
 generalize trapOf b (bitsL G[k2])=t2 at*
 generalize hw:G[k2]=w at*
 by_cases h2:w=m
 ·rw[decide_eq_true h2]at hc2
  subst h2
  simp (maxSteps:=1000000) (disch:=first|omega|assumption|decide +kernel|(simp;done)|(simp;omega)|fail) [hk,hk2,hw,hx,hc2,hd2,hd3,wk k2 (by omega)]
 ·rw[decide_eq_false h2]at hc2
  simp (maxSteps:=1000000) (disch:=first|omega|assumption|decide +kernel|(simp;done)|(simp;omega)|fail) [hk,hk2,hw,hx,hc2,h2,hd2,hd3,wk k2 (by omega)]
theorem e_ContainsS(b:WBook)(G:List Nat)(l:List Int)(hl:l.length<1000000)(hin: ∀n,n∈l→0≤n∧n<5)(d k:Nat)(s:Stk)(h:sget s d k=some (.cell [.sl .no 1 (es cInt l)]))(hd:d<s.length)(hG:G.length<1000000)(lab):
 den T 91 [.sl .no 5 (es (cStory b) G), .fn 92 [] [.ptr d k 0]] lab s=some (.bool (!allB (fun w=> !decide (w=maskL l)) G),s):=by
 have hd2: ¬d=s.length:=by omega
 have hd3: ¬d=s.length+1:=by omega
 have hi: ∃r:Int,(∀lab,den T 138 [.sl .no 5 (es (cStory b) G), .fn 92 [] [.ptr d k 0]] lab ([]::s)=some (i64 r,[]::s))∧(0≤r↔allB (fun w=> !decide (w=maskL l)) G=false):=by
  obtain⟨g,hg⟩:=e_IndexS_l b G l hl hin d k ([]::s) (by simp[hd2,h]) (by simp;omega) hG
  refine⟨if allB (fun w=> !decide (w=maskL l)) G=true then -1 else g,?_,?_⟩
  rotate_left
  ·cases allB (fun w=> !decide (w=maskL l)) G<;>simp
  intro lab
  rw[den_fn t138 _ _ _ rfl]
  simp only[b138]
  cases h:allB (fun w=> !decide (w=maskL l)) G<;>simp (maxSteps:=1000000) (disch:=first|omega|assumption|decide +kernel|(simp;done)|(simp;omega)|fail) [hg,h,hd2,hd3]
 obtain⟨r,hr,hi⟩:=hi
 rw[den_fn t91 _ _ _ rfl]
 simp only[b91]
 by_cases h:0≤r
 ·simp (maxSteps:=1000000) (disch:=first|omega|assumption|decide +kernel|(simp;done)|(simp;omega)|fail) [hr,h,hi.1 h,hd2]
 ·have:allB (fun w=> !decide (w=maskL l)) G=true:=by cases hx:allB (fun w=> !decide (w=maskL l)) G;exact absurd (hi.2 hx) h;rfl
  simp (maxSteps:=1000000) (disch:=first|omega|assumption|decide +kernel|(simp;done)|(simp;omega)|fail) [hr,h,this,hd2]
theorem good_mask {b:WBook}(h:bookB b=true) {l:List Int}(hr:rising l 0 (b.trap.times-1)=true):(!allB (fun w=> !decide (w=maskL l)) (sortG b))=(canR b l&&isOneB (trapOf b l)):=by
 have hok:=bookB_ok h
 have hT:=hok.t6
 have htt:=hok.trap.tt
 have e:b.T=b.trap.times.toNat:=rfl
 obtain⟨r1,r2⟩:=rising_iff.1 hr
 have hl:l∈allL b.T:=allL_mem.2 ⟨r1,fun y hy=>by have:=r2 y hy;omega⟩
 have e1:(canR b l&&isOneB (trapOf b l))=storyB b l:=by unfold canR storyB;rw[hr,Bool.true_and]
 rw[e1,Bool.eq_iff_iff]
 have e2:(!allB (fun w=> !decide (w=maskL l)) (sortG b))=true↔maskL l∈sortG b:=by
  simp[allB]
 rw[e2]
 constructor
 ·intro hm
  obtain⟨x,hx,ex⟩:=List.mem_map.1 hm
  have q1:=bits_mask x (allL_up hT (story_mem.1 hx).1)
  have q2:=bits_mask l (allL_up hT hl)
  rw[ex]at q1
  rw[q1]at q2
  rw[←q2]
  exact(story_mem.1 hx).2
 ·intro hs
  exact List.mem_map.2 ⟨l,story_mem.2 ⟨hl,hs⟩,rfl⟩
set_option maxHeartbeats 4000000 in
theorem e_Good(b:WBook)(hc:CopyB b)(l:List Int)(hl:l.length<1000000)(lab s):den T 37 [.agg (vB b), .sl .no 1 (es cInt l)] lab s=some (.tup [.bool (bookB b&&(canR b l&&isOneB (trapOf b l))),i64 (if bookB b=true then 0 else 110)],s):=by
 cases hB:bookB b
 ·have h1:=fun lab s=>e_read_no b hc true (by unfold ask11;rw[hB];simp) lab s
  have e:ask11 b true=110:=by unfold ask11;rw[hB];rfl
  rw[e]at h1
  rw[den_fn t37 _ _ _ rfl]
  simp only[b37]
  simp (maxSteps:=6000000) (disch:=first|omega|assumption|decide +kernel|(simp;done)|(simp;omega)|fail) [h1]
 ·have h2:=fun(F:Ab.Loc) lab k0=>e_read b hB hc F s lab k0
  have hok:=bookB_ok hB
  have hm:=trapB_mid (bookB_trap hB)
  have h3:=fun lab s=>e_areTimes b.trap hm l (by omega) lab s
  have htt:=hok.trap.tt
  have hG:(sortG b).length<1000000:=by rw[sortG_len2];have:=(stories_len hB).1;omega
  unfold stG at h2
  cases hr:rising l 0 (b.trap.times-1)
  ·have e:(canR b l&&isOneB (trapOf b l))=false:=by unfold canR;rw[hr];rfl
   rw[e]
   rw[hr]at h3
   generalize sortG b=G at*
   rw[den_fn t37 _ _ _ rfl]
   simp only[b37]
   simp (maxSteps:=6000000) (disch:=first|omega|assumption|decide +kernel|(simp;done)|(simp;omega)|fail) [h2,h3,orSlow_none,run_drawnK]
  ·have hin: ∀n,n∈l→0≤n∧n<5:=fun n hn=>by have:=(rising_iff.1 hr).2 n hn;omega
   have h4:=fun(F:Ab.Loc) (hF:F.get 48=some (.cell [.sl .no 1 (es cInt l)])) lab=>e_ContainsS b (sortG b) l hl hin s.length 48 (F::s) (by simp[hF]) (by simp) hG lab
   rw[good_mask hB hr]at h4
   rw[hr]at h3
   generalize (canR b l&&isOneB (trapOf b l))=r at*
   generalize sortG b=G at*
   rw[den_fn t37 _ _ _ rfl]
   simp only[b37]
   simp (maxSteps:=6000000) (disch:=first|omega|assumption|decide +kernel|(simp;done)|(simp;omega)|fail) [h2,h3,h4,orSlow_none,run_drawnK]
end Go.Proofs.YthghcainodgnkaaGreat

/-
  Watch: Stories, Least, many, Drunk (not built yet).
-/
namespace Go.Proofs.YthghcainodgnkaaGreat
open Go.Ab
set_option maxHeartbeats 2000000 in
theorem e_StoriesW(b:WBook)(hc:CopyB b)(lab s):den T 41 [.agg (vB b)] lab s=some (.tup [i64 (if bookB b=true then((storiesL b).length:Int)else 0),i64 (if bookB b=true then 0 else 110)],s):=by
 cases hB:bookB b
 ·have h1:=fun lab s=>e_read_no b hc true (by unfold ask11;rw[hB];simp) lab s
  have e:ask11 b true=110:=by unfold ask11;rw[hB];rfl
  rw[e]at h1
  rw[den_fn t41 _ _ _ rfl]
  simp only[b41]
  simp (maxSteps:=6000000) (disch:=first|omega|assumption|decide +kernel|(simp;done)|(simp;omega)|fail) [h1]
 ·have h2:=fun(F:Ab.Loc) lab k0=>e_read b hB hc F s lab k0
  unfold stG at h2
  rw[←sortG_len2]
  generalize sortG b=G at*
  rw[den_fn t41 _ _ _ rfl]
  simp only[b41]
  simp (maxSteps:=6000000) (disch:=first|omega|assumption|decide +kernel|(simp;done)|(simp;omega)|fail) [h2]
end Go.Proofs.YthghcainodgnkaaGreat

/-
  Watch: Must (not built yet).
-/
namespace Go.Proofs.YthghcainodgnkaaGreat
open Go.Ab
end Go.Proofs.YthghcainodgnkaaGreat

/-
  Watch: Ask (not built yet).
-/
namespace Go.Proofs.YthghcainodgnkaaGreat
open Go.Ab
end Go.Proofs.YthghcainodgnkaaGreat

/-
  Watch: Lies (not built yet).
-/
namespace Go.Proofs.YthghcainodgnkaaGreat
open Go.Ab
def cntJ(b:WBook)(w:CWord)(a:Nat×Nat)(l:List Int):Nat×Nat:=if judgeW b l w=1 then(a.1+1,a.2)else if judgeW b l w=2 then(a.1,a.2+1)else a
theorem cntJ_fold(b:WBook)(w:CWord): ∀(L:List (List Int)) (a:Nat×Nat),L.foldl (cntJ b w) a=(a.1+L.countP fun l=>decide (judgeW b l w=1),a.2+L.countP fun l=>decide (judgeW b l w=2))
 |[],a=>by simp
 |l::L,a=>by
   rw[List.foldl_cons,cntJ_fold b w L,List.countP_cons,List.countP_cons]
   unfold cntJ
   by_cases h1:judgeW b l w=1
   ·simp[h1];omega
   ·by_cases h2:judgeW b l w=2
    ·simp[h2];omega
    ·simp[h1,h2]
theorem short_trapOf {b:WBook}(hB:bookB b=true)(hc:CopyB b)(l:List Int):ShortT (trapOf b l):=⟨by have:=hc.trap.opn;show b.trap.opn.length<_;omega,by have:=hc.trap.words;have:=List.length_filter_le (fun w:CWord=> !l.contains w.time) b.trap.words;show(b.trap.words.filter _).length<_;omega,fun x hx=>trapOf_open hB _ x hx⟩
set_option maxHeartbeats 4000000 in
theorem e_Lies_lw(b:WBook)(hB:bookB b=true)(hc:CopyB b)(n:Nat)(hn:n<b.trap.words.length)(G:List Nat)(hG:G.length<1000000)(hG2: ∀g,g∈G→bitsL g∈storiesL b)(s:Stk):
 Run T b29l0 [(1,i64 n),(2, .ptr s.length 32 0),(6, .ptr s.length 368 0),(8,i64 0),(9,i64 0),(32, .sl .no 5 (es (cStory b) G)),(33,i64 G.length),(34,i64 0)] ([(32, .cell (vB b)),(368, .cell (vK b (.sl .no 5 (es (cStory b) G))))]::s)=some (.exit 0,[(1,i64 n),(2, .ptr s.length 32 0),(6, .ptr s.length 368 0),(8,i64 (((G).foldl (fun a g=>cntJ b b.trap.words[n] a (bitsL g)) ((0,0):Nat×Nat)).1:Nat)),(9,i64 (((G).foldl (fun a g=>cntJ b b.trap.words[n] a (bitsL g)) ((0,0):Nat×Nat)).2:Nat)),(32, .sl .no 5 (es (cStory b) G)),(33,i64 G.length),(34,i64 ((G).length:Nat)),(35, .bool false)],[(32, .cell (vB b)),(368, .cell (vK b (.sl .no 5 (es (cStory b) G))))]::s):=by
 have key:=loop_fold (T:=T) (live:=[1,2,6,8,9,32,33,34]) (keep:=[32,352,368]) (b:=d29l0) (G) (fun k a=>a.1≤k∧a.2≤k) (fun a g=>cntJ b b.trap.words[n] a (bitsL g)) (fun k (a:Nat×Nat)=>[(1,i64 n),(2, .ptr s.length 32 0),(6, .ptr s.length 368 0),(8,i64 (a.1:Nat)),(9,i64 (a.2:Nat)),(32, .sl .no 5 (es (cStory b) G)),(33,i64 G.length),(34,i64 (k:Nat))]) (fun k (a:Nat×Nat)=>[(32, .cell (vB b)),(368, .cell (vK b (.sl .no 5 (es (cStory b) G))))]::s) (fun(a:Nat×Nat)=>(.exit 0,[(1,i64 n),(2, .ptr s.length 32 0),(6, .ptr s.length 368 0),(8,i64 (a.1:Nat)),(9,i64 (a.2:Nat)),(32, .sl .no 5 (es (cStory b) G)),(33,i64 G.length),(34,i64 ((G).length:Nat)),(35, .bool false)],[(32, .cell (vB b)),(368, .cell (vK b (.sl .no 5 (es (cStory b) G))))]::s)) (by simp) ?_ ?_ ?_ ((0,0):Nat×Nat) (by simp) [(1,i64 n),(2, .ptr s.length 32 0),(6, .ptr s.length 368 0),(8,i64 0),(9,i64 0),(32, .sl .no 5 (es (cStory b) G)),(33,i64 G.length),(34,i64 0)] ([(32, .cell (vB b)),(368, .cell (vK b (.sl .no 5 (es (cStory b) G))))]::s) (by simp) (by simp)
 ·exact key
 ·intro k a hk hi
  obtain⟨p,q⟩:=a
  dsimp only at hi
  have hk2:(k:Int)<G.length:=by omega
  have hn2:(n:Int)<b.trap.words.length:=by omega
  have hm:=hG2 _ (List.getElem_mem hk)
  have h2:=fun lab s=>e_Judge (trapOf b (bitsL G[k])) (short_trapOf hB hc _) (trapB_less (bookB_trap hB) _) b.trap.words[n] lab s
  rw[judge_story hB hm (List.getElem_mem hn)]at h2
  have hx:cStory b G[k]= .int .u64 (G[k]:Nat)::vT (trapOf b (bitsL G[k])):=rfl
  have w1:IntKind.i64.wrap ((p:Int)+1)=(p:Int)+1:=wi _ (by omega) (by omega)
  have w2:IntKind.i64.wrap ((q:Int)+1)=(q:Int)+1:=wi _ (by omega) (by omega)
  unfold cntJ
  clear hm
  generalize judgeW b (bitsL G[k]) b.trap.words[n]=j at*
  generalize trapOf b (bitsL G[k])=t2 at*
  generalize hy:G[k]=x at*
  generalize hw:b.trap.words[n]=w at*
  obtain⟨w0,w3,w4,w5⟩:=w
  dsimp only at*
  by_cases j1:j=1
  ·subst j1
   simp (maxSteps:=1000000) (disch:=first|omega|assumption|decide +kernel|(simp;done)|(simp;omega)|fail) [run_drawnK,orSlow_none,hk,hk2,hn,hn2,hx,hy,hw,h2,w1,wk k (by omega)]
  ·by_cases j2:j=2
   ·subst j2
    simp (maxSteps:=1000000) (disch:=first|omega|assumption|decide +kernel|(simp;done)|(simp;omega)|fail) [run_drawnK,orSlow_none,hk,hk2,hn,hn2,hx,hy,hw,h2,w2,wk k (by omega)]
   ·simp (maxSteps:=1000000) (disch:=first|omega|assumption|decide +kernel|(simp;done)|(simp;omega)|fail) [run_drawnK,orSlow_none,hk,hk2,hn,hn2,hx,hy,hw,h2,j1,j2,wk k (by omega)]
 ·intro k a hk hi
  obtain⟨p,q⟩:=a
  unfold cntJ
  dsimp only at hi⊢
  split
  ·dsimp only;omega
  ·split<;>dsimp only<;>omega
 ·intro a hi
  simp
set_option maxHeartbeats 4000000 in
theorem e_LiesW(b:WBook)(hc:CopyB b)(n:Int)(lab s):den T 29 [.agg (vB b),i64 n] lab s=some (.tup [i64 (liesV11 b n).1,i64 (liesV11 b n).2],s):=by
 have h1:=hc.trap.words
 have w1:IntKind.i64.wrap ((b.trap.words.length:Int)-1)=(b.trap.words.length:Int)-1:=wi _ (by omega) (by omega)
 unfold liesV11
 by_cases h:open11 b (wiB n 0 ((b.trap.words.length:Int)-1))=0
 ·have h2:=fun(F:Ab.Loc) lab k0=>e_told b hc _ h F s lab k0
  obtain⟨hB,k2,hne⟩:=open11_ok h
  have hT:=(bookB_ok hB).t6
  have hb:=wiB_iff.1 k2
  obtain⟨n,rfl⟩: ∃m:Nat,n=m:=⟨n.toNat,by omega⟩
  have hn:n<b.trap.words.length:=by omega
  have hG:(sortG b).length<1000000:=by rw[sortG_len2];have:=(stories_len hB).1;omega
  have hl:=e_Lies_lw b hB hc n hn (sortG b) hG (fun g hg=>by rw[←sortG_bits hT];exact List.mem_map.2 ⟨g,hg,rfl⟩) s
  rw[←List.foldl_map (f:=bitsL) (g:=cntJ b b.trap.words[n]),sortG_bits hT,cntJ_fold]at hl
  simp only[Nat.zero_add]at hl
  have ew:wordAt b (n:Int)=b.trap.words[n]:=by simp[wordAt,List.getD,hn]
  rw[if_pos h]
  unfold liesV
  rw[ew]
  have a1:((storiesL b).all fun l=>decide (judgeW b l b.trap.words[n]=1))=true↔((storiesL b).countP fun l=>decide (judgeW b l b.trap.words[n]=1))=(sortG b).length:=by rw[sortG_len2,List.countP_eq_length,List.all_eq_true]
  have a2:((storiesL b).all fun l=>decide (judgeW b l b.trap.words[n]=2))=true↔((storiesL b).countP fun l=>decide (judgeW b l b.trap.words[n]=2))=(sortG b).length:=by rw[sortG_len2,List.countP_eq_length,List.all_eq_true]
  rw[k2]at h2
  unfold stG at h2
  generalize ((storiesL b).countP fun l=>decide (judgeW b l b.trap.words[n]=2))=p at*
  generalize ((storiesL b).countP fun l=>decide (judgeW b l b.trap.words[n]=1))=q at*
  generalize ((storiesL b).all fun l=>decide (judgeW b l b.trap.words[n]=2))=p2 at*
  generalize ((storiesL b).all fun l=>decide (judgeW b l b.trap.words[n]=1))=q2 at*
  generalize sortG b=L at*
  by_cases c1:p=L.length
  ·rw[if_pos (a2.2 c1)]
   subst c1
   rw[den_fn t29 _ _ _ rfl]
   simp only[b29]
   simp (maxSteps:=6000000) (disch:=first|omega|assumption|decide +kernel|(simp;done)|(simp;omega)|fail) [run_drawnK,orSlow_none,w1,k2,h2,hl]
  ·have c1': ¬(L.length:Int)=p:=by omega
   rw[if_neg fun e=>c1 (a2.1 e)]
   by_cases c2:q=L.length
   ·rw[if_pos (a1.2 c2)]
    subst c2
    rw[den_fn t29 _ _ _ rfl]
    simp only[b29]
    simp (maxSteps:=6000000) (disch:=first|omega|assumption|decide +kernel|(simp;done)|(simp;omega)|fail) [run_drawnK,orSlow_none,w1,k2,h2,hl,c1']
   ·have c2': ¬(L.length:Int)=q:=by omega
    rw[if_neg fun e=>c2 (a1.1 e)]
    rw[den_fn t29 _ _ _ rfl]
    simp only[b29]
    simp (maxSteps:=6000000) (disch:=first|omega|assumption|decide +kernel|(simp;done)|(simp;omega)|fail) [run_drawnK,orSlow_none,w1,k2,h2,hl,c1',c2']
 ·have h1:=fun lab s=>e_told_no b hc _ h lab s
  rw[if_neg h]
  generalize hw:wiB n 0 ((b.trap.words.length:Int)-1)=w at*
  rw[den_fn t29 _ _ _ rfl]
  simp only[b29]
  simp (maxSteps:=6000000) (disch:=first|omega|assumption|decide +kernel|(simp;done)|(simp;omega)|fail) [run_drawnK,orSlow_none,w1,hw,h1,h]
end Go.Proofs.YthghcainodgnkaaGreat

/-
  Watch: span (not built yet).
-/
namespace Go.Proofs.YthghcainodgnkaaGreat
open Go.Ab
def spnF(fx:Nat→CSp)(G:List Nat)(a:CSp)(k:Nat):CSp:=hullS (if k=0 then fx (G.getD k 0)else a) (fx (G.getD k 0))
theorem spn_fold(f:List Int→CSp)(G:List Nat)(hne:G≠[]):(List.range G.length).foldl (spnF (fun g=>f (bitsL g)) G) ⟨0,0⟩=hullF f (G.map bitsL):=by
 match G,hne with
 |g::G,_=>
   rw[List.length_cons,List.range_succ_eq_map,List.foldl_cons,List.foldl_map]
   have e0:spnF (fun g=>f (bitsL g)) (g::G) ⟨0,0⟩ 0=hullS (f (bitsL g)) (f (bitsL g)):=by simp[spnF]
   rw[e0,List.map_cons]
   show _=(bitsL g::G.map bitsL).foldl (fun a l=>hullS a (f l)) (f (bitsL g))
   rw[List.foldl_cons]
   have key: ∀(L:List Nat) (P:List Nat) (a:CSp),(∀k,k<L.length→(g::G).getD (P.length+1+k) 0=L.getD k 0)→(List.range L.length).foldl (fun x y=>spnF (fun g=>f (bitsL g)) (g::G) x (P.length+(y+1))) a=(L.map bitsL).foldl (fun a l=>hullS a (f l)) a:=by
    intro L
    induction L with
    |nil=>intro P a _;rfl
    |cons x L ih=>
      intro P a h
      have h0:=h 0 (by simp)
      rw[List.length_cons,List.range_succ_eq_map,List.foldl_cons,List.foldl_map,List.map_cons,List.foldl_cons]
      have e1:spnF (fun g=>f (bitsL g)) (g::G) a (P.length+(0+1))=hullS a (f (bitsL x)):=by
       unfold spnF
       rw[if_neg (by omega),show P.length+(0+1)=P.length+1+0 by omega,h0]
       rfl
      rw[e1]
      have:=ih (x::P) (hullS a (f (bitsL x))) (fun k hk=>by
       have:=h (k+1) (by simp;omega)
       rw[List.length_cons,show P.length+1+1+k=P.length+1+(k+1)by omega,this]
       simp)
      rw[←this]
      congr 1
      funext x y
      congr 1
      simp only[List.length_cons,Nat.succ_eq_add_one];omega
   have:=key G [] (hullS (f (bitsL g)) (f (bitsL g))) (fun k hk=>by
    have e:([]:List Nat).length+1+k=k+1:=by simp;omega
    rw[e];simp)
   rw[←this]
   congr 1
   funext x y
   congr 1
   simp
set_option maxHeartbeats 4000000 in
theorem e_span_l(b:WBook)(G:List Nat)(hG:G.length<1000000)(f:Nat)(cap:List V)(fx:Nat→CSp)(ex:Nat→Int)(s:Stk)(hc1:V.stripAll cap=cap)(hc2: ∀keep,V.mapAll (dropR s.length keep) cap=cap)
 (hF: ∀g,g∈G→ ∀(L:Ab.Loc) lab,den T f (.agg (vT (trapOf b (bitsL g)))::cap) lab (L::s)=some (.tup [.agg [i64 (fx g).lo,i64 (fx g).hi],i64 (ex g)],L::s)):
 Run T b100l0 [(1, .fn f [] cap),(4, .ptr s.length 64 0),(5, .ptr s.length 80 0),(13, .sl .no 5 (es (cStory b) G)),(14,i64 G.length),(15,i64 0)] ([(64, .cell [i64 0,i64 0]),(80, .cell [i64 0,i64 0])]::s)=
  some (.exit 0,[(1, .fn f [] cap),(4, .ptr s.length 64 0),(5, .ptr s.length 80 0),(13, .sl .no 5 (es (cStory b) G)),(14,i64 G.length),(15,i64 G.length),(16, .bool false)],[(64, .cell [i64 0,i64 0]),(80, .cell [i64 ((List.range G.length).foldl (spnF fx G) ⟨0,0⟩).lo,i64 ((List.range G.length).foldl (spnF fx G) ⟨0,0⟩).hi])]::s):=by
 have key:=loop_fold (T:=T) (live:=[1,4,5,13,14,15]) (keep:=[64,80]) (b:=d100l0) (List.range G.length) (fun _ _=>True) (spnF fx G)
  (fun k _=>[(1, .fn f [] cap),(4, .ptr s.length 64 0),(5, .ptr s.length 80 0),(13, .sl .no 5 (es (cStory b) G)),(14,i64 G.length),(15,i64 (k:Nat))]) (fun _ a=>[(64, .cell [i64 0,i64 0]),(80, .cell [i64 a.lo,i64 a.hi])]::s)
  (fun a=>(.exit 0,[(1, .fn f [] cap),(4, .ptr s.length 64 0),(5, .ptr s.length 80 0),(13, .sl .no 5 (es (cStory b) G)),(14,i64 G.length),(15,i64 G.length),(16, .bool false)],[(64, .cell [i64 0,i64 0]),(80, .cell [i64 a.lo,i64 a.hi])]::s))
  (by simp) ?_ ?_ ?_ ⟨0,0⟩ trivial [(1, .fn f [] cap),(4, .ptr s.length 64 0),(5, .ptr s.length 80 0),(13, .sl .no 5 (es (cStory b) G)),(14,i64 G.length),(15,i64 0)] ([(64, .cell [i64 0,i64 0]),(80, .cell [i64 0,i64 0])]::s) (by simp[hc2]) (by simp)
 ·exact key
 ·intro k a hk hi
  simp only[List.length_range]at hk
  simp only[List.getElem_range]
  have hk2:(k:Int)<G.length:=by omega
  have eg:G.getD k 0=G[k]:=by simp[List.getD,hk]
  have h1:=hF G[k] (List.getElem_mem hk)
  have hx:cStory b G[k]= .int .u64 (G[k]:Nat)::vT (trapOf b (bitsL G[k])):=rfl
  unfold spnF hullS
  rw[eg]
  generalize fx G[k]=x at*
  generalize ex G[k]=e at*
  generalize trapOf b (bitsL G[k])=t2 at*
  generalize hw:G[k]=w at*
  obtain⟨x1,x2⟩:=x
  obtain⟨a1,a2⟩:=a
  dsimp only at*
  by_cases h0:k=0
  ·subst h0
   simp (maxSteps:=1000000) (disch:=first|omega|assumption|decide +kernel|(simp;done)|(simp;omega)|fail) [hk,hk2,hw,hx,hc1,hc2,h1,wi]
  ·have h0': ¬(k:Int)=0:=by omega
   simp (maxSteps:=1000000) (disch:=first|omega|assumption|decide +kernel|(simp;done)|(simp;omega)|fail) [hk,hk2,hw,hx,hc1,hc2,h1,h0,h0',wk k (by omega)]
 ·intro k a hk hi
  trivial
 ·intro a hi
  simp[hc2]
theorem e_span {b:WBook}(hB:bookB b=true)(hne:storiesL b≠[])(d l f:Nat)(cap:List V)(fl:List Int→CSp)(ex:Nat→Int)(s:Stk)(hd: ¬d=s.length)(h:sget s d l=some (.cell (vK b (stG b))))(hc1:V.stripAll cap=cap)(hc2: ∀keep,V.mapAll (dropR s.length keep) cap=cap)
 (hF: ∀g,bitsL g∈storiesL b→ ∀(L:Ab.Loc) lab,den T f (.agg (vT (trapOf b (bitsL g)))::cap) lab (L::s)=some (.tup [.agg [i64 (fl (bitsL g)).lo,i64 (fl (bitsL g)).hi],i64 (ex g)],L::s)) (lab):
 den T 100 [.ptr d l 0, .fn f [] cap] lab s=some (.agg [i64 (hullF fl (storiesL b)).lo,i64 (hullF fl (storiesL b)).hi],s):=by
 have hT:=(bookB_ok hB).t6
 have hG:(sortG b).length<1000000:=by rw[sortG_len2];have:=(stories_len hB).1;omega
 have hl:=e_span_l b (sortG b) hG f cap (fun g=>fl (bitsL g)) ex s hc1 hc2 (fun g hg=>hF g (by rw[←sortG_bits hT];exact List.mem_map.2 ⟨g,hg,rfl⟩))
 rw[spn_fold fl (sortG b) (fun e=>hne ((sortG_nil2 b).1 e)),sortG_bits hT]at hl
 unfold stG at h
 generalize hullF fl (storiesL b)=r at*
 generalize sortG b=G at*
 rw[den_fn t100 _ _ _ rfl]
 simp only[b100]
 simp (maxSteps:=1000000) (disch:=first|omega|assumption|decide +kernel|(simp;done)|(simp;omega)|fail) [hd,h,hl]
end Go.Proofs.YthghcainodgnkaaGreat

/-
  Watch: Fish, Came (not built yet).
-/
namespace Go.Proofs.YthghcainodgnkaaGreat
open Go.Ab
theorem e_Fish1(t:CTrap)(hs:ShortT t)(hB:trapB t=true)(i c:Int)(d l1 l2:Nat)(S:Stk)(h1:sget S d l1=some (.cell [i64 i]))(h2:sget S d l2=some (.cell [i64 c]))(hd: ¬d=S.length)(lab):
 den T 101 [.agg (vT t), .ptr d l1 0, .ptr d l2 0] lab S=some (.tup [.agg [i64 (fishC t i c).1.lo,i64 (fishC t i c).1.hi],i64 (fishC t i c).2],S):=by
 have h3:=fun lab s=>e_Fish t hs hB i c lab s
 generalize fishC t i c=r at*
 rw[den_fn t101 _ _ _ rfl]
 simp only[b101]
 simp (maxSteps:=1000000) (disch:=first|omega|assumption|decide +kernel|(simp;done)|(simp;omega)|fail) [hd,h1,h2,h3]
theorem e_Came1(t:CTrap)(hs:ShortT t)(hB:trapB t=true)(i c:Int)(d l1 l2:Nat)(S:Stk)(h1:sget S d l1=some (.cell [i64 i]))(h2:sget S d l2=some (.cell [i64 c]))(hd: ¬d=S.length)(lab):
 den T 106 [.agg (vT t), .ptr d l1 0, .ptr d l2 0] lab S=some (.tup [.agg [i64 (cameC t i c).1.lo,i64 (cameC t i c).1.hi],i64 (cameC t i c).2],S):=by
 have h3:=fun lab s=>e_Came t hs hB i c lab s
 generalize cameC t i c=r at*
 rw[den_fn t106 _ _ _ rfl]
 simp only[b106]
 simp (maxSteps:=1000000) (disch:=first|omega|assumption|decide +kernel|(simp;done)|(simp;omega)|fail) [hd,h1,h2,h3]
set_option maxHeartbeats 4000000 in
theorem e_FishW(b:WBook)(hc:CopyB b)(hm:Mid b.trap)(i c:Int)(lab s):den T 48 [.agg (vB b),i64 i,i64 c] lab s=some (.tup [.agg [i64 (fishV11 b i c).1.lo,i64 (fishV11 b i c).1.hi],i64 (fishV11 b i c).2],s):=by
 have h0:=fun lab s=>e_isTimeW b hm i lab s
 have w1:IntKind.i64.wrap (b.trap.chambers-1)=b.trap.chambers-1:=by obtain⟨⟨_,_⟩,_⟩:=hm;exact wi _ (by omega) (by omega)
 unfold fishV11
 by_cases h:open11 b (placeB b.trap i c)=0
 ·have h2:=fun(F:Ab.Loc) lab k0=>e_told b hc _ h F s lab k0
  obtain⟨hB,k2,hne⟩:=open11_ok h
  rw[k2]at h2
  have k3:=k2
  simp only[placeB,Bool.and_eq_true]at k2
  obtain⟨c1,c2⟩:=k2
  have hf: ∀g,bitsL g∈storiesL b→fishC (trapOf b (bitsL g)) i c=(difR (trapOf b (bitsL g)) i.toNat c.toNat i.toNat (c.toNat+1),0):=fun g hg=>by
   have ho:openT (trapOf b (bitsL g)) (placeB (trapOf b (bitsL g)) i c)=0:=by
    rw[openT_of (trapB_less (bookB_trap hB) _),show placeB (trapOf b (bitsL g)) i c=placeB b.trap i c from rfl,k3,story_one hg];rfl
   unfold fishC
   rw[if_pos ho]
  have h3:=fun(F:Ab.Loc) (hF:F.get 368=some (.cell (vK b (stG b)))) (hF1:F.get 64=some (.cell [i64 i])) (hF2:F.get 80=some (.cell [i64 c])) lab=>
   e_span hB hne s.length 368 101 [.ptr s.length 64 0, .ptr s.length 80 0] (fun l=>difR (trapOf b l) i.toNat c.toNat i.toNat (c.toNat+1)) (fun _=>0) (F::s) (by simp) (by simp[hF]) (by simp) (by intro keep;simp)
    (fun g hg L lab=>by
      have:=e_Fish1 (trapOf b (bitsL g)) (short_trapOf hB hc _) (trapB_less (bookB_trap hB) _) i c s.length 64 80 (L::F::s) (by simp[hF1]) (by simp[hF2]) (by simp;omega) lab
      rw[hf g hg]at this
      exact this) lab
  rw[show hullF (fun l=>difR (trapOf b l) i.toNat c.toNat i.toNat (c.toNat+1)) (storiesL b)=spanW b i.toNat c.toNat i.toNat (c.toNat+1)from rfl]at h3
  rw[if_pos h]
  clear hf
  unfold stG at h2 h3
  generalize spanW b i.toNat c.toNat i.toNat (c.toNat+1)=r at*
  generalize sortG b=G at*
  rw[den_fn t48 _ _ _ rfl]
  simp only[b48]
  simp (maxSteps:=6000000) (disch:=first|omega|assumption|decide +kernel|(simp;done)|(simp;omega)|fail) [run_drawnK,orSlow_none,h0,w1,c1,c2,h2,h3]
 ·have h1:=fun lab s=>e_told_no b hc _ h lab s
  rw[if_neg h]
  cases c1:wiB i 0 (b.trap.times-1)
  ·have e:placeB b.trap i c=false:=by unfold placeB;rw[c1];rfl
   rw[e]at h1 h⊢
   rw[den_fn t48 _ _ _ rfl]
   simp only[b48]
   simp (maxSteps:=6000000) (disch:=first|omega|assumption|decide +kernel|(simp;done)|(simp;omega)|fail) [run_drawnK,orSlow_none,h0,h1,h,c1]
  ·have e:placeB b.trap i c=wiB c 0 (b.trap.chambers-1):=by unfold placeB;rw[c1];rfl
   rw[e]at h1 h⊢
   generalize hw:wiB c 0 (b.trap.chambers-1)=w at*
   rw[den_fn t48 _ _ _ rfl]
   simp only[b48]
   simp (maxSteps:=6000000) (disch:=first|omega|assumption|decide +kernel|(simp;done)|(simp;omega)|fail) [run_drawnK,orSlow_none,h0,w1,hw,h1,h,c1]
end Go.Proofs.YthghcainodgnkaaGreat

/-
  Watch: Came (not built yet).
-/
namespace Go.Proofs.YthghcainodgnkaaGreat
open Go.Ab
set_option maxHeartbeats 4000000 in
theorem e_CameW(b:WBook)(hc:CopyB b)(hm:Mid b.trap)(i j:Int)(lab s):den T 53 [.agg (vB b),i64 i,i64 j] lab s=some (.tup [.agg [i64 (cameV11 b i j).1.lo,i64 (cameV11 b i j).1.hi],i64 (cameV11 b i j).2],s):=by
 have h0:=fun n lab s=>e_isTimeW b hm n lab s
 unfold cameV11
 by_cases h:open11 b (spanIs b i j)=0
 ·have h2:=fun(F:Ab.Loc) lab k0=>e_told b hc _ h F s lab k0
  obtain⟨hB,k2,hne⟩:=open11_ok h
  rw[k2]at h2
  simp only[spanIs,Bool.and_eq_true,decide_eq_true_eq]at k2
  obtain⟨c1,c2,c3⟩:=k2
  have b1:=wiB_iff.1 c1
  have b2:=wiB_iff.1 c2
  obtain⟨i,rfl⟩: ∃m:Nat,i=m:=⟨i.toNat,by omega⟩
  obtain⟨j,rfl⟩: ∃m:Nat,j=m:=⟨j.toNat,by omega⟩
  have hf: ∀g,bitsL g∈storiesL b→cameC (trapOf b (bitsL g)) i j=(difR (trapOf b (bitsL g)) j 0 i 0,0):=fun g hg=>came_story hB hg (by omega) (by omega)
  have h3:=fun(F:Ab.Loc) (hF:F.get 400=some (.cell (vK b (stG b)))) (hF1:F.get 64=some (.cell [i64 (i:Int)])) (hF2:F.get 80=some (.cell [i64 (j:Int)])) lab=>
   e_span hB hne s.length 400 106 [.ptr s.length 64 0, .ptr s.length 80 0] (fun l=>difR (trapOf b l) j 0 i 0) (fun _=>0) (F::s) (by simp) (by simp[hF]) (by simp) (by intro keep;simp)
    (fun g hg L lab=>by
      have:=e_Came1 (trapOf b (bitsL g)) (short_trapOf hB hc _) (trapB_less (bookB_trap hB) _) i j s.length 64 80 (L::F::s) (by simp[hF1]) (by simp[hF2]) (by simp;omega) lab
      rw[hf g hg]at this
      exact this) lab
  rw[show hullF (fun l=>difR (trapOf b l) j 0 i 0) (storiesL b)=spanW b j 0 i 0 from rfl]at h3
  rw[if_pos h]
  simp only[Int.toNat_natCast]
  clear hf
  unfold stG at h2 h3
  generalize spanW b j 0 i 0=r at*
  generalize sortG b=G at*
  have c4:i≤j:=by omega
  rw[den_fn t53 _ _ _ rfl]
  simp only[b53]
  simp (maxSteps:=6000000) (disch:=first|omega|assumption|decide +kernel|(simp;done)|(simp;omega)|fail) [run_drawnK,orSlow_none,h0,c1,c2,c3,c4,h2,h3]
 ·have h1:=fun lab s=>e_told_no b hc _ h lab s
  rw[if_neg h]
  cases c1:wiB i 0 (b.trap.times-1)
  ·have e:spanIs b i j=false:=by unfold spanIs;rw[c1];rfl
   rw[e]at h1 h⊢
   rw[den_fn t53 _ _ _ rfl]
   simp only[b53]
   simp (maxSteps:=6000000) (disch:=first|omega|assumption|decide +kernel|(simp;done)|(simp;omega)|fail) [run_drawnK,orSlow_none,h0,h1,h,c1]
  ·cases c2:wiB j 0 (b.trap.times-1)
   ·have e:spanIs b i j=false:=by unfold spanIs;rw[c1,c2];rfl
    rw[e]at h1 h⊢
    rw[den_fn t53 _ _ _ rfl]
    simp only[b53]
    simp (maxSteps:=6000000) (disch:=first|omega|assumption|decide +kernel|(simp;done)|(simp;omega)|fail) [run_drawnK,orSlow_none,h0,h1,h,c1,c2]
   ·have e:spanIs b i j=decide (i≤j):=by unfold spanIs;rw[c1,c2];rfl
    rw[e]at h1 h⊢
    by_cases c3:i≤j
    ·simp only[c3,decide_true]at h1 h⊢
     rw[den_fn t53 _ _ _ rfl]
     simp only[b53]
     simp (maxSteps:=6000000) (disch:=first|omega|assumption|decide +kernel|(simp;done)|(simp;omega)|fail) [run_drawnK,orSlow_none,h0,h1,h,c1,c2,c3]
    ·simp only[c3,decide_false]at h1 h⊢
     rw[den_fn t53 _ _ _ rfl]
     simp only[b53]
     simp (maxSteps:=6000000) (disch:=first|omega|assumption|decide +kernel|(simp;done)|(simp;omega)|fail) [run_drawnK,orSlow_none,h0,h1,h,c1,c2,c3]
end Go.Proofs.YthghcainodgnkaaGreat

/-
  Watch: fewest, no word more (not built yet).
-/
namespace Go.Proofs.YthghcainodgnkaaGreat
open Go.Ab
end Go.Proofs.YthghcainodgnkaaGreat

/-
  Watch: fewest, the search (not built yet).
-/
namespace Go.Proofs.YthghcainodgnkaaGreat
open Go.Ab
end Go.Proofs.YthghcainodgnkaaGreat

/-
  Watch: fewest, the search with words more (not built yet).
-/
namespace Go.Proofs.YthghcainodgnkaaGreat
open Go.Ab
end Go.Proofs.YthghcainodgnkaaGreat

/-
  Watch: fewest, Blame, False (not built yet).
-/
namespace Go.Proofs.YthghcainodgnkaaGreat
open Go.Ab
end Go.Proofs.YthghcainodgnkaaGreat

/-
  Watch, laws: copies, equal books.
-/
namespace Go.Proofs.YthghcainodgnkaaGreat
open Go.Ab
set_option maxHeartbeats 4000000 in
theorem e_Copy11(b:WBook)(hc:CopyB b)(lab s):den T 28 [.agg (vB b)] lab s=some (.agg (vB b),s):=by
 obtain⟨h1,h2,h3⟩:=hc.trap
 have hs:=hc.trap.short
 have hso:=hc.sober
 by_cases hw:b.trap.words=[]
 ·have hC:=fun(loc:Ab.Loc) lab k0=>e_Copy01_0 b.trap hs h1 h3 hw loc s lab k0
  by_cases h0:b.sober=[]
  ·rw[den_fn t28 _ _ _ rfl]
   simp only[b28]
   simp (maxSteps:=6000000) (disch:=first|omega|assumption|decide +kernel|(simp;done)|(simp;omega)|fail) [run_drawnK,orSlow_none,hC,h0,appD_full_nil]
   try simp[hw]
  ·have hne:es cInt b.sober≠[]:=by simpa using h0
   rw[den_fn t28 _ _ _ rfl]
   simp only[b28]
   simp (maxSteps:=6000000) (disch:=first|omega|assumption|decide +kernel|(simp;done)|(simp;omega)|fail) [run_drawnK,orSlow_none,hC,hne,appD_full]
   try simp[hw]
 ·have hC:=fun(loc:Ab.Loc) lab k0 k1=>e_Copy01_1 b.trap hs h1 h2 h3 hw loc s lab k0 k1
  by_cases h0:b.sober=[]
  ·rw[den_fn t28 _ _ _ rfl]
   simp only[b28]
   simp (maxSteps:=6000000) (disch:=first|omega|assumption|decide +kernel|(simp;done)|(simp;omega)|fail) [run_drawnK,orSlow_none,hC,h0,appD_full_nil]
  ·have hne:es cInt b.sober≠[]:=by simpa using h0
   rw[den_fn t28 _ _ _ rfl]
   simp only[b28]
   simp (maxSteps:=6000000) (disch:=first|omega|assumption|decide +kernel|(simp;done)|(simp;omega)|fail) [run_drawnK,orSlow_none,hC,hne,appD_full]
end Go.Proofs.YthghcainodgnkaaGreat

/-
  Watch, laws: equal books.
-/
namespace Go.Proofs.YthghcainodgnkaaGreat
open Go.Ab
end Go.Proofs.YthghcainodgnkaaGreat

/-
  Watch, laws: Huge, Far, ready (not built yet).
-/
namespace Go.Proofs.YthghcainodgnkaaGreat
open Go.Ab
structure ShortB(b:WBook):Prop where
 trap:ShortT b.trap
 sober:b.sober.length<4611686018427387904
def hugeL(l:List (List Int)):Bool:=decide (40<l.length)|| !allB (fun r=>decide (r.length≤40)) l
def hugeT(t:CTrap):Bool:=hugeL t.opn||decide (40<t.words.length)
def hugeK(b:WBook):Bool:=hugeT b.trap||decide (40<b.sober.length)
theorem e_huge_l(l:List (List Int))(hl:l.length≤40)(s:Stk)(he: ∀r,r∈l→r.length<4611686018427387904):
 Run T b132l0 [(0, .sl .no 1 (es cInts l)),(3,i64 0)] ([]::s)=
  if allB (fun r=>decide (r.length≤40)) l=true then some (.exit 0,[(0, .sl .no 1 (es cInts l)),(3,i64 l.length),(10, .bool false)],[]::s)else some (.ret,[(2, .bool true)],[]::s):=by
 refine loop_all l (fun r=>decide (r.length≤40)) (fun k=>[(0, .sl .no 1 (es cInts l)),(3,i64 k)]) (fun _=>[]::s) _ _ (by simp) (by simp) ?_ (by simp) _ _ (by simp) (by simp)
 intro k hk
 have hk2:(k:Int)<l.length:=by omega
 generalize hR:l[k]=R at*
 by_cases h:R.length≤40
 ·have h2: ¬(40:Int)<R.length:=by omega
  simp (maxSteps:=1000000) (disch:=first|omega|assumption|decide +kernel|(simp;done)|(simp;omega)|fail) [hk,hk2,hR,h,h2,wk k (by omega)]
 ·have h2:(40:Int)<R.length:=by omega
  simp (maxSteps:=1000000) (disch:=first|omega|assumption|decide +kernel|(simp;done)|(simp;omega)|fail) [hk,hk2,hR,h,h2,wk k (by omega)]
theorem e_huge(l:List (List Int))(hl:l.length<4611686018427387904)(he: ∀r,r∈l→r.length<4611686018427387904)(lab s):den T 132 [.sl .no 1 (es cInts l)] lab s=some (.bool (hugeL l),s):=by
 unfold hugeL
 rw[den_fn t132 _ _ _ rfl]
 simp only[b132]
 by_cases h:40<l.length
 ·have h2:(40:Int)<l.length:=by omega
  simp (maxSteps:=1000000) (disch:=first|omega|assumption|decide +kernel|(simp;done)|(simp;omega)|fail) [h,h2]
 ·have h2: ¬(40:Int)<l.length:=by omega
  have h1:=e_huge_l l (by omega) s he
  cases ha:allB (fun r=>decide (r.length≤40)) l
  ·rw[ha,if_neg (by simp)]at h1
   simp (maxSteps:=1000000) (disch:=first|omega|assumption|decide +kernel|(simp;done)|(simp;omega)|fail) [h,h2,h1]
  ·rw[ha,if_pos rfl]at h1
   simp (maxSteps:=1000000) (disch:=first|omega|assumption|decide +kernel|(simp;done)|(simp;omega)|fail) [h,h2,h1]
theorem e_Huge01(t:CTrap)(hs:ShortT t)(lab s):den T 88 [.agg (vT t)] lab s=some (.bool (hugeT t),s):=by
 have h1:=fun lab s=>e_huge t.opn hs.opn hs.each lab s
 have hw:=hs.words
 unfold hugeT
 rw[den_fn t88 _ _ _ rfl]
 simp only[b88]
 cases c:hugeL t.opn
 ·by_cases h:40<t.words.length
  ·have h2:(40:Int)<t.words.length:=by omega
   simp (maxSteps:=1000000) (disch:=first|omega|assumption|decide +kernel|(simp;done)|(simp;omega)|fail) [h1,c,h,h2]
  ·have h2: ¬(40:Int)<t.words.length:=by omega
   simp (maxSteps:=1000000) (disch:=first|omega|assumption|decide +kernel|(simp;done)|(simp;omega)|fail) [h1,c,h,h2]
 ·simp (maxSteps:=1000000) (disch:=first|omega|assumption|decide +kernel|(simp;done)|(simp;omega)|fail) [h1,c]
theorem e_Huge11(b:WBook)(hs:ShortB b)(lab s):den T 36 [.agg (vB b)] lab s=some (.bool (hugeK b),s):=by
 have h1:=fun lab s=>e_Huge01 b.trap hs.trap lab s
 have hw:=hs.sober
 unfold hugeK
 rw[den_fn t36 _ _ _ rfl]
 simp only[b36]
 cases c:hugeT b.trap
 ·by_cases h:40<b.sober.length
  ·have h2:(40:Int)<b.sober.length:=by omega
   simp (maxSteps:=1000000) (disch:=first|omega|assumption|decide +kernel|(simp;done)|(simp;omega)|fail) [h1,c,h,h2]
  ·have h2: ¬(40:Int)<b.sober.length:=by omega
   simp (maxSteps:=1000000) (disch:=first|omega|assumption|decide +kernel|(simp;done)|(simp;omega)|fail) [h1,c,h,h2]
 ·simp (maxSteps:=1000000) (disch:=first|omega|assumption|decide +kernel|(simp;done)|(simp;omega)|fail) [h1,c]
theorem hugeK_copy {b:WBook}(h:hugeK b=false):CopyB b:=by
 simp only[hugeK,hugeT,hugeL,Bool.or_eq_false_iff,decide_eq_false_iff_not,Bool.not_eq_false',allB_iff,decide_eq_true_eq]at h
 obtain⟨⟨⟨h1,h2⟩,h3⟩,h4⟩:=h
 exact⟨⟨by omega,by omega,fun l hl=>by have:=h2 l hl;omega⟩,by omega⟩
def farB(b:WBook):Bool:=hugeK b||((decide (3<b.trap.chambers)||decide (4<b.trap.times))&&bookB b)
theorem e_Far(b:WBook)(hs:ShortB b)(lab s):den T 27 [.agg (vB b)] lab s=some (.bool (farB b),s):=by
 have h1:=fun lab s=>e_Huge11 b hs lab s
 unfold farB
 cases c:hugeK b
 ·have h2:=fun lab s=>e_Check11 b (hugeK_copy c) lab s
  rw[den_fn t27 _ _ _ rfl]
  simp only[b27]
  by_cases q1:3<b.trap.chambers
  ·cases q:bookB b<;>simp (maxSteps:=1000000) (disch:=first|omega|assumption|decide +kernel|(simp;done)|(simp;omega)|fail) [h1,h2,c,q1,q]
  ·by_cases q2:4<b.trap.times
   ·cases q:bookB b<;>simp (maxSteps:=1000000) (disch:=first|omega|assumption|decide +kernel|(simp;done)|(simp;omega)|fail) [h1,h2,c,q1,q2,q]
   ·simp (maxSteps:=1000000) (disch:=first|omega|assumption|decide +kernel|(simp;done)|(simp;omega)|fail) [h1,h2,c,q1,q2]
 ·rw[den_fn t27 _ _ _ rfl]
  simp only[b27]
  simp (maxSteps:=1000000) (disch:=first|omega|assumption|decide +kernel|(simp;done)|(simp;omega)|fail) [h1,c]
theorem farB_copy {b:WBook}(h:farB b=false):CopyB b:=by
 unfold farB at h
 exact hugeK_copy (by rw[Bool.or_eq_false_iff]at h;exact h.1)
end Go.Proofs.YthghcainodgnkaaGreat

/-
  What the arguments of the laws of watch read as.
-/
namespace Go.Proofs.YthghcainodgnkaaGreat
open Go.Ab
set_option maxRecDepth 100000
theorem cells57:Tryz.prog.cellsOf 57=4:=by kernel_rfl
theorem cells3:Tryz.prog.cellsOf 3=1:=by kernel_rfl
theorem cells26:Tryz.prog.cellsOf 26=1:=by kernel_rfl
variable {B : TypeId → Nat → Prop} {n : Nat} {vs : List V}
theorem fit_int(h:Fit Tryz.prog B (n+1) 3 vs): ∃x,vs=[i64 x]:=by
 simp only[Fit,Tryz.underlying3]at h
 exact h
theorem es_all {α:Type} {f:α→List V}(l:List (List V))(h: ∀x∈l,∃y,x=f y): ∃l':List α,l=es f l':=by
 obtain⟨l',h1,_⟩:=es_of (Q:=fun _=>True) l fun x hx=>by obtain⟨y,hy⟩:=h x hx;exact⟨y,hy,trivial⟩
 exact⟨l',h1⟩
theorem fit_ints(h:Fit Tryz.prog B (n+2) 26 vs): ∃l:List Int,vs=[.sl .no 1 (es cInt l)]∧B 3 l.length:=by
 rw[Fit,Tryz.underlying26]at h
 simp only at h
 obtain⟨l,rfl,hb,h⟩:=h
 obtain⟨l',rfl⟩:=es_all (f:=cInt) l fun x hx=>by obtain⟨y,hy⟩:=fit_int (h x hx);exact⟨y,hy⟩
 rw[cells3]
 exact⟨l',rfl,by simpa using hb⟩
theorem fit_lists(h:Fit Tryz.prog B (n+3) 22 vs): ∃l:List (List Int),vs=[.sl .no 1 (es cInts l)]∧B 26 l.length∧ ∀x,x∈l→B 3 x.length:=by
 rw[Fit,Tryz.underlying22]at h
 simp only at h
 obtain⟨l,rfl,hb,h⟩:=h
 obtain⟨l',h1,h2⟩:=es_of (f:=cInts) (Q:=fun x=>B 3 x.length) l fun x hx=>by obtain⟨y,hy,hy2⟩:=fit_ints (h x hx);exact⟨y,hy,hy2⟩
 subst h1
 rw[cells26]
 exact⟨l',rfl,by simpa using hb,h2⟩
theorem fit_cword(h:Fit Tryz.prog B (n+2) 57 vs): ∃x:CWord,vs=cWord x:=by
 rw[Fit,Tryz.underlying57]at h
 simp only[FitF]at h
 obtain⟨_,_,rfl,h0,_,_,rfl,h1,_,_,rfl,h2,_,_,rfl,h3,rfl⟩:=h
 obtain⟨a,rfl⟩:=fit_int h0
 obtain⟨b,rfl⟩:=fit_int h1
 obtain⟨c,rfl⟩:=fit_int h2
 obtain⟨d,rfl⟩:=fit_int h3
 exact⟨⟨a,b,c,d⟩,rfl⟩
theorem fit_words(h:Fit Tryz.prog B (n+3) 23 vs): ∃l:List CWord,vs=[.sl .no 4 (es cWord l)]∧B 57 l.length:=by
 rw[Fit,Tryz.underlying23]at h
 simp only at h
 obtain⟨l,rfl,hb,h⟩:=h
 obtain⟨l',rfl⟩:=es_all (f:=cWord) l fun x hx=>fit_cword (h x hx)
 rw[cells57]
 exact⟨l',rfl,by simpa using hb⟩
def Reach(e:TypeId)(k:Nat):Prop:=k≤maxLen∧k*Tryz.prog.bytesOf e≤reachBytes
theorem bytes57:Tryz.prog.bytesOf 57=32:=by kernel_rfl
theorem bytes3:Tryz.prog.bytesOf 3=8:=by kernel_rfl
theorem bytes26:Tryz.prog.bytesOf 26=24:=by kernel_rfl
theorem reach_ints {k:Nat}(h:Reach 3 k):k<4611686018427387904:=by
 simp only[Reach,bytes3,reachBytes]at h;omega
theorem reach_lists {k:Nat}(h:Reach 26 k):k<4611686018427387904:=by
 simp only[Reach,bytes26,reachBytes]at h;omega
theorem reach_words {k:Nat}(h:Reach 57 k):k<4611686018427387904:=by
 simp only[Reach,bytes57,reachBytes]at h;omega
theorem fit_trap(h:Fit Tryz.prog Reach (n+4) 25 vs): ∃t:CTrap,vs=vT t∧ShortT t:=by
 rw[Fit,Tryz.underlying25]at h
 simp only[FitF]at h
 obtain⟨_,_,rfl,h0,_,_,rfl,h1,_,_,rfl,h2,_,_,rfl,h3,rfl⟩:=h
 obtain⟨a,rfl⟩:=fit_int h0
 obtain⟨b,rfl⟩:=fit_int h1
 obtain⟨c,rfl,q1,q2⟩:=fit_lists h2
 obtain⟨d,rfl,q3⟩:=fit_words h3
 exact⟨⟨a,b,c,d⟩,rfl,reach_lists q1,reach_words q3,fun l hl=>reach_ints (q2 l hl)⟩
theorem fit_book(h:Fit Tryz.prog Reach (n+5) 28 vs): ∃b:WBook,vs=vB b∧ShortB b:=by
 rw[Fit,Tryz.underlying28]at h
 simp only[FitF]at h
 obtain⟨_,_,rfl,h0,_,_,rfl,h1,_,_,rfl,h2,_,_,rfl,h3,rfl⟩:=h
 obtain⟨t,rfl,q1⟩:=fit_trap h0
 obtain⟨a,rfl⟩:=fit_int h1
 obtain⟨c,rfl⟩:=fit_int h2
 obtain⟨d,rfl,q3⟩:=fit_ints h3
 exact⟨⟨t,a,c,d⟩,rfl,q1,reach_ints q3⟩
end Go.Proofs.YthghcainodgnkaaGreat

/-
  Watch, laws: the examples, works (not built yet).
-/
namespace Go.Proofs.YthghcainodgnkaaGreat
open Go.Ab
theorem e_word11(a b c d:Int)(lab s):den T 117 [i64 a,i64 b,i64 c,i64 d] lab s=some (.agg [i64 a,i64 b,i64 c,i64 d],s):=by
 rw[den_fn t117 _ _ _ rfl]
 simp only[b117]
 simp (maxSteps:=1000000) (disch:=first|omega|assumption|decide +kernel|(simp;done)|(simp;omega)|fail) []
theorem exB_copy:CopyB exB:=hugeK_copy (by decide)
theorem exC_copy:CopyB exC:=hugeK_copy (by decide)
theorem exC_ok:bookB exC=true:=by decide +kernel
set_option maxHeartbeats 2000000 in
theorem e_Example11(lab s):den T 73 [] lab s=some (.tup [.agg (vB exB), .agg (vB exC)],s):=by
 have hC:=fun lab s=>e_Copy11 exB exB_copy lab s
 simp only[vB,exB,exC,es,List.map_cons,List.map_nil,cInts_eq,cInts,cInt,cWord]at hC⊢
 rw[den_fn t73 _ _ _ rfl]
 simp only[b73]
 simp (maxSteps:=6000000) (disch:=first|omega|assumption|decide +kernel|(simp;done)|(simp;omega)|fail) [run_drawnK,orSlow_none,e_word11,hC]
end Go.Proofs.YthghcainodgnkaaGreat

/-
  Watch, laws: small helpers (not built yet).
-/
namespace Go.Proofs.YthghcainodgnkaaGreat
open Go.Ab
theorem open11_B {b:WBook}(h:bookB b=true) {is:Bool}:open11 b is=if is=true then(if storiesL b=[]then 3 else 0)else 1:=by
 unfold open11 ask11
 rw[h]
 cases is<;>simp
end Go.Proofs.YthghcainodgnkaaGreat

/-
  Watch: WatchGood (not built yet).
-/
namespace Go.Proofs.YthghcainodgnkaaGreat
open Go.Ab
end Go.Proofs.YthghcainodgnkaaGreat

/-
  Watch, laws: books that are not valid, of any numbers (not built yet).
-/
namespace Go.Proofs.YthghcainodgnkaaGreat
open Go.Ab
section
variable (b : WBook) (hc : CopyB b) (hB : bookB b = false)
include hc hB
end
end Go.Proofs.YthghcainodgnkaaGreat

/-
  Watch: WatchDrunk, WatchLies, WatchFish (not built yet).
-/
namespace Go.Proofs.YthghcainodgnkaaGreat
open Go.Ab
end Go.Proofs.YthghcainodgnkaaGreat

/-
  Watch: WatchSober (not built yet).
-/
namespace Go.Proofs.YthghcainodgnkaaGreat
open Go.Ab
end Go.Proofs.YthghcainodgnkaaGreat

/-
  Watch: WatchBlame.
-/
namespace Go.Proofs.YthghcainodgnkaaGreat
open Go.Ab
end Go.Proofs.YthghcainodgnkaaGreat

/-
  Watch: WatchWithout.
-/
namespace Go.Proofs.YthghcainodgnkaaGreat
open Go.Ab
theorem good_iff {b:WBook} {l:List Int}:(bookB b&&(canR b l&&isOneB (trapOf b l)))=true↔bookB b=true∧rising l 0 (b.trap.times-1)=true∧storyB b l=true:=by
 unfold canR storyB
 simp only[Bool.and_eq_true,and_assoc]
end Go.Proofs.YthghcainodgnkaaGreat

/-
  Watch: no span is wider.
-/
namespace Go.Proofs.YthghcainodgnkaaGreat
open Go.Ab
theorem fish_in {b:WBook}(hB:bookB b=true)(hne:storiesL b≠[]) {i c:Nat}(hi:i<b.T)(hc:c<b.trap.C):fishV11 b i c=(spanW b i c i (c+1),0):=by
 have e1:b.T=b.trap.times.toNat:=rfl
 have e2:b.trap.C=b.trap.chambers.toNat:=rfl
 have hp:placeB b.trap i c=true:=by
  unfold placeB
  rw[wiB_iff.2 (by omega),wiB_iff.2 (by omega)];rfl
 unfold fishV11
 rw[open11_B hB,hp,if_pos rfl,if_neg hne,if_pos rfl]
 simp only[Int.toNat_natCast]
theorem came_in {b:WBook}(hB:bookB b=true)(hne:storiesL b≠[]) {i:Nat}(hi:i<b.T):cameV11 b 0 i=(spanW b i 0 0 0,0):=by
 have e1:b.T=b.trap.times.toNat:=rfl
 have hp:spanIs b 0 i=true:=by
  unfold spanIs
  rw[wiB_iff.2 (by omega),wiB_iff.2 (by omega),decide_eq_true (by omega)];rfl
 unfold cameV11
 rw[open11_B hB,hp,if_pos rfl,if_neg hne,if_pos rfl]
 simp only[Int.toNat_natCast,Int.toNat_zero]
theorem inS_iff {a b:CSp}:inS a b=true↔b.lo≤a.lo∧a.lo≤a.hi∧a.hi≤b.hi:=by simp[inS]
end Go.Proofs.YthghcainodgnkaaGreat

/-
  Watch: WatchMore.
-/
namespace Go.Proofs.YthghcainodgnkaaGreat
open Go.Ab
end Go.Proofs.YthghcainodgnkaaGreat

/-
  Watch: the tops' inBook, asBook, lying (not built yet).
-/
namespace Go.Proofs.YthghcainodgnkaaGreat
open Go.Ab
theorem fishC_in {t:CTrap}(ht:trapB t=true)(hone:isOneB t=true) {i c:Nat}(hi:i<t.T)(hc:c<t.C):fishC t i c=(difR t i c i (c+1),0):=by
 have e1:t.T=t.times.toNat:=rfl
 have e2:t.C=t.chambers.toNat:=rfl
 have hp:placeB t i c=true:=by
  unfold placeB
  rw[wiB_iff.2 (by omega),wiB_iff.2 (by omega)];rfl
 unfold fishC
 rw[openT_of ht,hp,if_pos rfl,if_pos hone,if_pos rfl]
 simp only[Int.toNat_natCast]
theorem cameC_in {t:CTrap}(ht:trapB t=true)(hone:isOneB t=true) {i:Nat}(hi:i<t.T):cameC t 0 i=(difR t i 0 0 0,0):=by
 have e1:t.T=t.times.toNat:=rfl
 have hp:(wiB 0 0 (i:Int)&&decide ((i:Int)<t.times))=true:=by
  rw[wiB_iff.2 (by omega),decide_eq_true (by omega)];rfl
 unfold cameC
 rw[openT_of ht,hp,if_pos rfl,if_pos hone,if_pos rfl]
 simp only[Int.toNat_natCast,Int.toNat_zero]
theorem judgeC_in {t:CTrap}(ht:trapB t=true)(hone:isOneB t=true) {w:CWord}(hw:wordOk t w=true):judgeC t w=(judgeS (difR t w.time.toNat w.chamber.toNat w.time.toNat (w.chamber.toNat+1)) w,0):=by
 unfold judgeC
 rw[openT_of ht,hw,if_pos rfl,if_pos hone,if_pos rfl]
structure InBook(t:CTrap)(b:WBook):Prop where
 ht:trapB t=true
 hs:ShortT t
 one:isOneB t=true
 cc:t.chambers=b.trap.chambers
 tt:t.times=b.trap.times
 hB:bookB b=true
 hc:CopyB b
 ne:storiesL b≠[]
 span: ∀i c j d,i<b.T→c≤b.trap.C→j<b.T→d≤b.trap.C→inS (difR t i c j d) (spanW b i c j d)=true
set_option maxHeartbeats 4000000 in
theorem e_inBook_l1(t:CTrap)(b:WBook)(h:InBook t b)(i:Nat)(hi0:i<b.T)(s:Stk):
 Run T b70l1 [(2, .ptr s.length 32 0),(3, .ptr s.length 48 0),(5,i64 (i:Nat)),(6,i64 0)] ([(32, .cell (vT t)),(48, .cell (vB b))]::s)=some (.exit 2,[(2, .ptr s.length 32 0),(3, .ptr s.length 48 0),(5,i64 (i:Nat)),(6,i64 ((List.range b.trap.C).length:Nat)),(24, .bool false)],[(32, .cell (vT t)),(48, .cell (vB b))]::s):=by
 have key:=loop_fold (T:=T) (live:=[2,3,5,6]) (keep:=[32,48]) (b:=d70l1) (List.range b.trap.C) (fun _ _=>True) (fun _ _=>()) (fun k (a:Unit)=>[(2, .ptr s.length 32 0),(3, .ptr s.length 48 0),(5,i64 (i:Nat)),(6,i64 (k:Nat))]) (fun k (a:Unit)=>[(32, .cell (vT t)),(48, .cell (vB b))]::s) (fun(a:Unit)=>(.exit 2,[(2, .ptr s.length 32 0),(3, .ptr s.length 48 0),(5,i64 (i:Nat)),(6,i64 ((List.range b.trap.C).length:Nat)),(24, .bool false)],[(32, .cell (vT t)),(48, .cell (vB b))]::s)) (by simp) ?_ ?_ ?_ () (by simp) [(2, .ptr s.length 32 0),(3, .ptr s.length 48 0),(5,i64 (i:Nat)),(6,i64 0)] ([(32, .cell (vT t)),(48, .cell (vB b))]::s) (by simp) (by simp)
 ·exact key
 ·intro k a hk hi
  try simp only[List.length_range]at hk
  try simp only[List.getElem_range]
  have hcc:=(bookB_ok h.hB).trap.cc
  have e2:b.trap.C=b.trap.chambers.toNat:=rfl
  have e3:t.C=b.trap.C:=by show t.chambers.toNat=b.trap.chambers.toNat;rw[h.cc]
  have e4:t.T=b.T:=by show t.times.toNat=b.trap.times.toNat;rw[h.tt]
  have hk2:(k:Int)<t.chambers:=by rw[h.cc];omega
  have hk9:k<1000:=by omega
  have h1:=fun lab s=>e_Fish t h.hs h.ht i k lab s
  have h2:=fun lab s=>e_FishW b h.hc (trapB_mid (bookB_trap h.hB)) i k lab s
  rw[fishC_in h.ht h.one (by omega) (by omega)]at h1
  rw[fish_in h.hB h.ne hi0 hk]at h2
  have q:=inS_iff.1 (h.span i k i (k+1) hi0 (Nat.le_of_lt hk) hi0 hk)
  clear e2 e3 e4 hcc
  generalize spanW b i k i (k+1)=y at*
  generalize difR t i k i (k+1)=x at*
  have q1: ¬x.lo<y.lo:=by omega
  have q2: ¬y.hi<x.hi:=by omega
  have q3: ¬x.hi<x.lo:=by omega
  simp (maxSteps:=6000000) (disch:=first|omega|assumption|decide +kernel|(simp;done)|(simp;omega)|fail) [run_drawnK,orSlow_none,hk2,h1,h2,q1,q2,q3,wk k (by omega)]
 ·intro k a hk hi
  try simp only[List.length_range]at hk
  try simp only[List.getElem_range]
  try simp
 ·intro a hi
  have hcc:=(bookB_ok h.hB).trap.cc
  have e2:b.trap.C=b.trap.chambers.toNat:=rfl
  have hz:((b.trap.C:Nat):Int)=t.chambers:=by rw[h.cc];omega
  simp only[List.length_range,hz]
  simp
set_option maxHeartbeats 4000000 in
theorem e_inBook_l0(t:CTrap)(b:WBook)(h:InBook t b)(s:Stk):
 Run T b70l0 [(2, .ptr s.length 32 0),(3, .ptr s.length 48 0),(5,i64 0)] ([(32, .cell (vT t)),(48, .cell (vB b))]::s)=some (.exit 0,[(2, .ptr s.length 32 0),(3, .ptr s.length 48 0),(5,i64 ((List.range b.T).length:Nat)),(18, .bool false)],[(32, .cell (vT t)),(48, .cell (vB b))]::s):=by
 have key:=loop_fold (T:=T) (live:=[2,3,5]) (keep:=[32,48]) (b:=d70l0) (List.range b.T) (fun _ _=>True) (fun _ _=>()) (fun k (a:Unit)=>[(2, .ptr s.length 32 0),(3, .ptr s.length 48 0),(5,i64 (k:Nat))]) (fun k (a:Unit)=>[(32, .cell (vT t)),(48, .cell (vB b))]::s) (fun(a:Unit)=>(.exit 0,[(2, .ptr s.length 32 0),(3, .ptr s.length 48 0),(5,i64 ((List.range b.T).length:Nat)),(18, .bool false)],[(32, .cell (vT t)),(48, .cell (vB b))]::s)) (by simp) ?_ ?_ ?_ () (by simp) [(2, .ptr s.length 32 0),(3, .ptr s.length 48 0),(5,i64 0)] ([(32, .cell (vT t)),(48, .cell (vB b))]::s) (by simp) (by simp)
 ·exact key
 ·intro k a hk hi
  try simp only[List.length_range]at hk
  try simp only[List.getElem_range]
  have htt:=(bookB_ok h.hB).trap.tt
  have e2:b.T=b.trap.times.toNat:=rfl
  have e4:t.T=b.T:=by show t.times.toNat=b.trap.times.toNat;rw[h.tt]
  have hk2:(k:Int)<t.times:=by rw[h.tt];omega
  have hk9:k<1000:=by omega
  have hl:=e_inBook_l1 t b h k hk s
  have h1:=fun lab s=>e_Came t h.hs h.ht 0 k lab s
  have h2:=fun lab s=>e_CameW b h.hc (trapB_mid (bookB_trap h.hB)) 0 k lab s
  rw[cameC_in h.ht h.one (by omega)]at h1
  rw[came_in h.hB h.ne hk]at h2
  have q:=inS_iff.1 (h.span k 0 0 0 hk (Nat.zero_le _) (by omega) (Nat.zero_le _))
  clear e2 e4 htt
  simp only[List.length_range]at hl
  generalize spanW b k 0 0 0=y at*
  generalize difR t k 0 0 0=x at*
  generalize b.trap.C=n at*
  have q1: ¬x.lo<y.lo:=by omega
  have q2: ¬y.hi<x.hi:=by omega
  have q3: ¬x.hi<x.lo:=by omega
  simp (maxSteps:=6000000) (disch:=first|omega|assumption|decide +kernel|(simp;done)|(simp;omega)|fail) [run_drawnK,orSlow_none,hk2,hl,h1,h2,q1,q2,q3,wk k (by omega)]
 ·intro k a hk hi
  try simp only[List.length_range]at hk
  try simp only[List.getElem_range]
  try simp
 ·intro a hi
  have htt:=(bookB_ok h.hB).trap.tt
  have e2:b.T=b.trap.times.toNat:=rfl
  have hz:((b.T:Nat):Int)=t.times:=by rw[h.tt];omega
  simp only[List.length_range,hz]
  simp
theorem e_inBook(t:CTrap)(b:WBook)(h:InBook t b)(lab s):den T 70 [.agg (vT t), .agg (vB b)] lab s=some (.bool true,s):=by
 have hl:=e_inBook_l0 t b h s
 generalize b.T=n at*
 rw[den_fn t70 _ _ _ rfl]
 simp only[b70]
 simp (maxSteps:=1000000) (disch:=first|omega|assumption|decide +kernel|(simp;done)|(simp;omega)|fail) [hl]
set_option maxHeartbeats 4000000 in
theorem e_asBook_l1(t:CTrap)(b:WBook)(h:InBook t b)(hd: ∀i c j d,spanW b i c j d=difR t i c j d)(i:Nat)(hi0:i<b.T)(s:Stk):
 Run T b72l1 [(2, .ptr s.length 32 0),(3, .ptr s.length 48 0),(5,i64 (i:Nat)),(6,i64 0)] ([(32, .cell (vT t)),(48, .cell (vB b))]::s)=some (.exit 2,[(2, .ptr s.length 32 0),(3, .ptr s.length 48 0),(5,i64 (i:Nat)),(6,i64 ((List.range b.trap.C).length:Nat)),(20, .bool false)],[(32, .cell (vT t)),(48, .cell (vB b))]::s):=by
 have key:=loop_fold (T:=T) (live:=[2,3,5,6]) (keep:=[32,48]) (b:=d72l1) (List.range b.trap.C) (fun _ _=>True) (fun _ _=>()) (fun k (a:Unit)=>[(2, .ptr s.length 32 0),(3, .ptr s.length 48 0),(5,i64 (i:Nat)),(6,i64 (k:Nat))]) (fun k (a:Unit)=>[(32, .cell (vT t)),(48, .cell (vB b))]::s) (fun(a:Unit)=>(.exit 2,[(2, .ptr s.length 32 0),(3, .ptr s.length 48 0),(5,i64 (i:Nat)),(6,i64 ((List.range b.trap.C).length:Nat)),(20, .bool false)],[(32, .cell (vT t)),(48, .cell (vB b))]::s)) (by simp) ?_ ?_ ?_ () (by simp) [(2, .ptr s.length 32 0),(3, .ptr s.length 48 0),(5,i64 (i:Nat)),(6,i64 0)] ([(32, .cell (vT t)),(48, .cell (vB b))]::s) (by simp) (by simp)
 ·exact key
 ·intro k a hk hi
  try simp only[List.length_range]at hk
  try simp only[List.getElem_range]
  have hcc:=(bookB_ok h.hB).trap.cc
  have e2:b.trap.C=b.trap.chambers.toNat:=rfl
  have e3:t.C=b.trap.C:=by show t.chambers.toNat=b.trap.chambers.toNat;rw[h.cc]
  have e4:t.T=b.T:=by show t.times.toNat=b.trap.times.toNat;rw[h.tt]
  have hk2:(k:Int)<t.chambers:=by rw[h.cc];omega
  have hk9:k<1000:=by omega
  have h1:=fun lab s=>e_Fish t h.hs h.ht i k lab s
  have h2:=fun lab s=>e_FishW b h.hc (trapB_mid (bookB_trap h.hB)) i k lab s
  rw[fishC_in h.ht h.one (by omega) (by omega)]at h1
  rw[fish_in h.hB h.ne hi0 hk,hd]at h2
  clear e2 e3 e4 hcc
  generalize difR t i k i (k+1)=x at*
  simp (maxSteps:=6000000) (disch:=first|omega|assumption|decide +kernel|(simp;done)|(simp;omega)|fail) [run_drawnK,orSlow_none,hk2,h1,h2,wk k (by omega)]
 ·intro k a hk hi
  try simp only[List.length_range]at hk
  try simp only[List.getElem_range]
  try simp
 ·intro a hi
  have hcc:=(bookB_ok h.hB).trap.cc
  have e2:b.trap.C=b.trap.chambers.toNat:=rfl
  have hz:((b.trap.C:Nat):Int)=t.chambers:=by rw[h.cc];omega
  simp only[List.length_range,hz]
  simp
set_option maxHeartbeats 4000000 in
theorem e_asBook_l0(t:CTrap)(b:WBook)(h:InBook t b)(hd: ∀i c j d,spanW b i c j d=difR t i c j d)(s:Stk):
 Run T b72l0 [(2, .ptr s.length 32 0),(3, .ptr s.length 48 0),(5,i64 0)] ([(32, .cell (vT t)),(48, .cell (vB b))]::s)=some (.exit 0,[(2, .ptr s.length 32 0),(3, .ptr s.length 48 0),(5,i64 ((List.range b.T).length:Nat)),(14, .bool false)],[(32, .cell (vT t)),(48, .cell (vB b))]::s):=by
 have key:=loop_fold (T:=T) (live:=[2,3,5]) (keep:=[32,48]) (b:=d72l0) (List.range b.T) (fun _ _=>True) (fun _ _=>()) (fun k (a:Unit)=>[(2, .ptr s.length 32 0),(3, .ptr s.length 48 0),(5,i64 (k:Nat))]) (fun k (a:Unit)=>[(32, .cell (vT t)),(48, .cell (vB b))]::s) (fun(a:Unit)=>(.exit 0,[(2, .ptr s.length 32 0),(3, .ptr s.length 48 0),(5,i64 ((List.range b.T).length:Nat)),(14, .bool false)],[(32, .cell (vT t)),(48, .cell (vB b))]::s)) (by simp) ?_ ?_ ?_ () (by simp) [(2, .ptr s.length 32 0),(3, .ptr s.length 48 0),(5,i64 0)] ([(32, .cell (vT t)),(48, .cell (vB b))]::s) (by simp) (by simp)
 ·exact key
 ·intro k a hk hi
  try simp only[List.length_range]at hk
  try simp only[List.getElem_range]
  have htt:=(bookB_ok h.hB).trap.tt
  have e2:b.T=b.trap.times.toNat:=rfl
  have hk2:(k:Int)<t.times:=by rw[h.tt];omega
  have hk9:k<1000:=by omega
  have hl:=e_asBook_l1 t b h hd k hk s
  clear e2 htt
  simp only[List.length_range]at hl
  generalize b.trap.C=n at*
  simp (maxSteps:=6000000) (disch:=first|omega|assumption|decide +kernel|(simp;done)|(simp;omega)|fail) [run_drawnK,orSlow_none,hk2,hl,wk k (by omega)]
 ·intro k a hk hi
  try simp only[List.length_range]at hk
  try simp only[List.getElem_range]
  try simp
 ·intro a hi
  have htt:=(bookB_ok h.hB).trap.tt
  have e2:b.T=b.trap.times.toNat:=rfl
  have hz:((b.T:Nat):Int)=t.times:=by rw[h.tt];omega
  simp only[List.length_range,hz]
  simp
theorem e_asBook(t:CTrap)(b:WBook)(h:InBook t b)(hd: ∀i c j d,spanW b i c j d=difR t i c j d)(lab s):den T 72 [.agg (vT t), .agg (vB b)] lab s=some (.bool true,s):=by
 have hl:=e_asBook_l0 t b h hd s
 generalize b.T=n at*
 rw[den_fn t72 _ _ _ rfl]
 simp only[b72]
 simp (maxSteps:=1000000) (disch:=first|omega|assumption|decide +kernel|(simp;done)|(simp;omega)|fail) [hl]
set_option maxHeartbeats 8000000 in
theorem e_lying_l(b:WBook)(g:List Int)(h:InBook (trapOf b g) b)(hg:g∈storiesL b)(s:Stk):
 Run T b71l0 [(2, .ptr s.length 32 0),(3, .ptr s.length 48 0),(5,i64 0)] ([(32, .cell (vT (trapOf b g))),(48, .cell (vB b))]::s)=some (.exit 0,[(2, .ptr s.length 32 0),(3, .ptr s.length 48 0),(5,i64 ((List.range b.trap.words.length).length:Nat)),(15, .bool false)],[(32, .cell (vT (trapOf b g))),(48, .cell (vB b))]::s):=by
 have key:=loop_fold (T:=T) (live:=[2,3,5]) (keep:=[32,48]) (b:=d71l0) (List.range b.trap.words.length) (fun _ _=>True) (fun _ _=>()) (fun k (a:Unit)=>[(2, .ptr s.length 32 0),(3, .ptr s.length 48 0),(5,i64 (k:Nat))]) (fun k (a:Unit)=>[(32, .cell (vT (trapOf b g))),(48, .cell (vB b))]::s) (fun(a:Unit)=>(.exit 0,[(2, .ptr s.length 32 0),(3, .ptr s.length 48 0),(5,i64 ((List.range b.trap.words.length).length:Nat)),(15, .bool false)],[(32, .cell (vT (trapOf b g))),(48, .cell (vB b))]::s)) (by simp) ?_ ?_ ?_ () (by simp) [(2, .ptr s.length 32 0),(3, .ptr s.length 48 0),(5,i64 0)] ([(32, .cell (vT (trapOf b g))),(48, .cell (vB b))]::s) (by simp) (by simp)
 ·exact key
 ·intro k a hk hi
  try simp only[List.length_range]at hk
  try simp only[List.getElem_range]
  have hok:=bookB_ok h.hB
  have hw9:=hok.trap.words
  have hk2:(k:Int)<b.trap.words.length:=by omega
  have hk9:k<1000:=by omega
  have hwo:wordOk (trapOf b g) b.trap.words[k]=true:=hok.trap.word _ (List.getElem_mem hk)
  have h1:=fun lab s=>e_Judge (trapOf b g) h.hs h.ht b.trap.words[k] lab s
  rw[judgeC_in h.ht h.one hwo]at h1
  have h2:=fun lab s=>e_LiesW b h.hc k lab s
  have hp:wiB (k:Int) 0 ((b.trap.words.length:Int)-1)=true:=wiB_iff.2 (by omega)
  unfold liesV11 at h2
  rw[open11_B h.hB,hp,if_pos rfl,if_neg h.ne,if_pos rfl]at h2
  have ew:wordAt b (k:Int)=b.trap.words[k]:=by simp[wordAt,List.getD,hk]
  rw[ew]at h2
  obtain⟨q1,q2⟩:=lying_story hg b.trap.words[k]
  unfold judgeW at q1 q2
  clear ew hp hwo h hg
  generalize judgeS (difR (trapOf b g) b.trap.words[k].time.toNat b.trap.words[k].chamber.toNat b.trap.words[k].time.toNat (b.trap.words[k].chamber.toNat+1)) b.trap.words[k]=kk at*
  generalize liesV b b.trap.words[k]=l at*
  generalize trapOf b g=t at*
  generalize hw:b.trap.words[k]=w at*
  obtain⟨w0,w1,w2,w3⟩:=w
  dsimp only at*
  by_cases k1:kk=1
  ·subst k1
   have l1: ¬l=1:=fun e=>by have:=q2 e;omega
   simp (maxSteps:=6000000) (disch:=first|omega|assumption|decide +kernel|(simp;done)|(simp;omega)|fail) [run_drawnK,orSlow_none,hk,hk2,hw,h1,h2,l1,wk k (by omega)]
  ·have l2: ¬l=2:=fun e=>k1 (q1 e)
   by_cases k2:kk=2
   ·subst k2
    simp (maxSteps:=6000000) (disch:=first|omega|assumption|decide +kernel|(simp;done)|(simp;omega)|fail) [run_drawnK,orSlow_none,hk,hk2,hw,h1,h2,l2,wk k (by omega)]
   ·have l1: ¬l=1:=fun e=>k2 (q2 e)
    simp (maxSteps:=6000000) (disch:=first|omega|assumption|decide +kernel|(simp;done)|(simp;omega)|fail) [run_drawnK,orSlow_none,hk,hk2,hw,h1,h2,k1,k2,l1,l2,wk k (by omega)]
 ·intro k a hk hi
  try simp only[List.length_range]at hk
  try simp only[List.getElem_range]
  try simp
 ·intro a hi
  simp
theorem e_lying(b:WBook)(g:List Int)(h:InBook (trapOf b g) b)(hg:g∈storiesL b)(lab s):den T 71 [.agg (vT (trapOf b g)), .agg (vB b)] lab s=some (.bool true,s):=by
 have hl:=e_lying_l b g h hg s
 simp only[List.length_range]at hl
 generalize trapOf b g=t at*
 rw[den_fn t71 _ _ _ rfl]
 simp only[b71]
 simp (maxSteps:=1000000) (disch:=first|omega|assumption|decide +kernel|(simp;done)|(simp;omega)|fail) [hl]
end Go.Proofs.YthghcainodgnkaaGreat

/-
  Watch: the tops' example, meant (not built yet).
-/
namespace Go.Proofs.YthghcainodgnkaaGreat
open Go.Ab
def exT1:CTrap:=⟨2,3,[[0,1],[1]],[⟨0,0,5,6⟩,⟨0,1,0,0⟩,⟨1,0,3,8⟩,⟨2,1,4,10⟩]⟩
def exQ1:CTrap:=toldT exT1 ⟨1,1,12,20⟩
theorem exT1_ok:trapB exT1=true:=by decide +kernel
theorem exT1_one:isOneB exT1=true:=by decide +kernel
theorem exT1_dif:difR exT1 1 0 0 0=⟨0,13⟩:=by decide +kernel
theorem e_word01(a b c d:Int)(lab s):den T 145 [i64 a,i64 b,i64 c,i64 d] lab s=some (.agg [i64 a,i64 b,i64 c,i64 d],s):=by
 rw[den_fn t145 _ _ _ rfl]
 simp only[b145]
 simp (maxSteps:=1000000) (disch:=first|omega|assumption|decide +kernel|(simp;done)|(simp;omega)|fail) []
set_option maxHeartbeats 2000000 in
theorem e_Example01(lab s):den T 113 [] lab s=some (.tup [.agg (vT exT1), .agg (vT exQ1)],s):=by
 have hC:=fun lab s=>e_Told01 exT1 (trapB_copy exT1_ok) ⟨1,1,12,20⟩ lab s
 unfold exQ1
 simp only[vT,exT1,toldT,List.cons_append,List.nil_append,es,List.map_cons,List.map_nil,cInts_eq,cInts,cInt,cWord]at hC⊢
 rw[den_fn t113 _ _ _ rfl]
 simp only[b113]
 simp (maxSteps:=6000000) (disch:=first|omega|assumption|decide +kernel|(simp;done)|(simp;omega)|fail) [run_drawnK,orSlow_none,e_word01,hC]
set_option maxHeartbeats 2000000 in
theorem e_meant(lab s):den T 67 [] lab s=some (.bool true,s):=by
 have h1:=fun lab s=>e_Example01 lab s
 have h2:=fun lab s=>e_Example11 lab s
 have h3:=fun lab s=>e_Came exT1 (trapB_copy exT1_ok).short exT1_ok 0 1 lab s
 have e3:cameC exT1 0 1=(⟨0,13⟩,0):=by
  have:=cameC_in exT1_ok exT1_one (i:=1) (by decide)
  rw[exT1_dif]at this
  exact this
 rw[e3]at h3
 have h4:=fun lab s=>e_StoriesW exC exC_copy lab s
 rw[exC_ok,if_pos rfl,if_pos rfl,ex_storiesC]at h4
 clear e3
 generalize exB=B at*
 generalize exC=C at*
 generalize exQ1=Q at*
 generalize exT1=X at*
 rw[den_fn t67 _ _ _ rfl]
 simp only[b67]
 simp (maxSteps:=6000000) (disch:=first|omega|assumption|decide +kernel|(simp;done)|(simp;omega)|fail) [run_drawnK,orSlow_none,h1,h2,h3,h4,eqCells]
end Go.Proofs.YthghcainodgnkaaGreat

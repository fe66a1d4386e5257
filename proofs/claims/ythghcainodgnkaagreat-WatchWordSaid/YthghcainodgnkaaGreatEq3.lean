/-
  Watch: a trap without some words (not built yet).
-/
import Derived.Test.YthghcainodgnkaaGreatEq2
import Derived.Test.YthghcainodgnkaaGreatEq1
set_option linter.unusedSimpArgs false
set_option linter.unusedVariables false
namespace Go.Proofs.YthghcainodgnkaaGreat
open Go.Ab
def keepW(ws:List CWord)(p:Nat→Bool):List CWord:=((List.range ws.length).filter fun k=> !p k).map fun k=>ws.getD k default
def keepF(ws:List CWord)(p:Nat→Bool)(a:List CWord)(k:Nat):List CWord:=if p k=true then a else a ++[ws.getD k default]
theorem keepF_fold(ws:List CWord)(p:Nat→Bool): ∀(l:List Nat) (a:List CWord),l.foldl (keepF ws p) a=a ++(l.filter fun k=> !p k).map fun k=>ws.getD k default
 |[],a=>by simp
 |k::l,a=>by
   rw[List.foldl_cons,keepF_fold ws p l,List.filter_cons]
   unfold keepF
   cases p k<;>simp
theorem keepW_fold(ws:List CWord)(p:Nat→Bool):(List.range ws.length).foldl (keepF ws p) []=keepW ws p:=by rw[keepF_fold,List.nil_append];rfl
theorem getD_range {α:Type} [Inhabited α](ws:List α):(List.range ws.length).map (fun k=>ws.getD k default)=ws:=by
 refine List.ext_getElem (by simp) fun k h1 h2=> ?_
 simp[List.getD,h2]
theorem keepW_filter(ws:List CWord)(q:CWord→Bool):keepW ws (fun k=>q (ws.getD k default))=ws.filter fun w=> !q w:=by
 unfold keepW
 conv=>rhs;rw[←getD_range ws]
 rw[List.filter_map]
 rfl
theorem zip_range {α:Type} [Inhabited α](ws:List α):ws.zipIdx=(List.range ws.length).map fun k=>(ws.getD k default,k):=by
 refine List.ext_getElem (by simp) fun k h1 h2=> ?_
 simp only[List.length_zipIdx]at h1
 simp[List.getD,h1]
theorem keepW_drop(t:CTrap)(ws:List Int): {t with words:=keepW t.words fun k=>ws.contains (k:Int)}=dropW t ws:=by
 unfold dropW keepW
 rw[zip_range,List.filter_map,List.map_map]
 rfl
theorem keepW_trap(b:WBook)(l:List Int): {b.trap with words:=keepW b.trap.words fun k=>l.contains (b.trap.words.getD k default).time}=trapOf b l:=by
 rw[keepW_filter b.trap.words fun w=>l.contains w.time]
 rfl
def wioF(b:WBook)(d:Nat)(a:List CWord):Ab.Loc:=[(64, .cell [i64 0,i64 0, .sl .full 1 [], .sl .full 4 []]),(80, .cell [i64 b.trap.chambers,i64 b.trap.times, .sl .no 1 (es cInts b.trap.opn), .sl (.own d 85) 4 (es cWord a)]),(85, .tok a.length)]
set_option maxHeartbeats 2000000 in
theorem e_without_l(b:WBook)(hwl:b.trap.words.length<1000000)(f:Nat)(cap:List V)(p:Nat→Bool)(s:Stk)(hc1:V.stripAll cap=cap)(hc2: ∀keep,V.mapAll (dropR s.length keep) cap=cap)
 (hF: ∀k,k<b.trap.words.length→ ∀(L:Ab.Loc) lab,den T f (i64 k::cap) lab (L::s)=some (.bool (p k),L::s)):
 Run T b123l0 [(1, .fn f [] cap),(4, .ptr s.length 64 0),(5, .ptr s.length 80 0),(19, .sl .no 4 (es cWord b.trap.words)),(20,i64 b.trap.words.length),(21,i64 0)] (wioF b s.length []::s)=
  some (.exit 0,[(1, .fn f [] cap),(4, .ptr s.length 64 0),(5, .ptr s.length 80 0),(19, .sl .no 4 (es cWord b.trap.words)),(20,i64 b.trap.words.length),(21,i64 b.trap.words.length),(22, .bool false)],wioF b s.length (keepW b.trap.words p)::s):=by
 have key:=loop_fold (T:=T) (live:=[1,4,5,19,20,21]) (keep:=[64,80,85]) (b:=d123l0) (List.range b.trap.words.length) (fun k (a:List CWord)=>a.length≤k) (keepF b.trap.words p)
  (fun k _=>[(1, .fn f [] cap),(4, .ptr s.length 64 0),(5, .ptr s.length 80 0),(19, .sl .no 4 (es cWord b.trap.words)),(20,i64 b.trap.words.length),(21,i64 (k:Nat))]) (fun _ a=>wioF b s.length a::s)
  (fun a=>(.exit 0,[(1, .fn f [] cap),(4, .ptr s.length 64 0),(5, .ptr s.length 80 0),(19, .sl .no 4 (es cWord b.trap.words)),(20,i64 b.trap.words.length),(21,i64 b.trap.words.length),(22, .bool false)],wioF b s.length a::s))
  (by simp) ?_ ?_ ?_ [] (by simp) [(1, .fn f [] cap),(4, .ptr s.length 64 0),(5, .ptr s.length 80 0),(19, .sl .no 4 (es cWord b.trap.words)),(20,i64 b.trap.words.length),(21,i64 0)] (wioF b s.length []::s) (by simp[hc2]) (by simp[wioF])
 ·rw[keepW_fold]at key
  exact key
 ·intro k a hk hi
  simp only[List.length_range]at hk
  simp only[List.getElem_range]
  have hk2:(k:Int)<b.trap.words.length:=by omega
  have e0: ∀w:CWord,es cWord a ++[[i64 w.time,i64 w.chamber,i64 w.lo,i64 w.hi]]=es cWord (a ++[w]):=fun w=>by simp[es]
  have e1:=e0 b.trap.words[k]
  have eg:b.trap.words.getD k default=b.trap.words[k]:=by simp[List.getD,hk]
  have h1:=hF k hk
  unfold keepF
  rw[eg]
  cases h:p k
  ·rw[h]at h1
   simp (maxSteps:=1000000) (disch:=first|omega|assumption|decide +kernel|(simp;done)|(simp;omega)|fail) [run_drawnK,wioF,hk,hk2,hc1,hc2,h1,e1,appK_own1,wk k (by omega)]
  ·rw[h]at h1
   simp (maxSteps:=1000000) (disch:=first|omega|assumption|decide +kernel|(simp;done)|(simp;omega)|fail) [wioF,hk,hk2,hc1,hc2,h1,wk k (by omega)]
 ·intro k a hk hi
  unfold keepF
  split<;>(try simp only[List.length_append,List.length_cons,List.length_nil])<;>omega
 ·intro a hi
  simp[wioF,hc2]
set_option maxHeartbeats 2000000 in
theorem e_without(b:WBook)(hwl:b.trap.words.length<1000000)(st:V)(d l f:Nat)(cap:List V)(p:Nat→Bool)(s:Stk)(hd: ¬d=s.length)(h:sget s d l=some (.cell (vK b st)))(hc1:V.stripAll cap=cap)(hc2: ∀keep,V.mapAll (dropR s.length keep) cap=cap)
 (hF: ∀k,k<b.trap.words.length→ ∀(L:Ab.Loc) lab,den T f (i64 k::cap) lab (L::s)=some (.bool (p k),L::s)) (lab):
 den T 123 [.ptr d l 0, .fn f [] cap] lab s=some (.agg (vT {b.trap with words:=keepW b.trap.words p}),s):=by
 have key:=e_without_l b hwl f cap p s hc1 hc2 hF
 simp only[wioF,es_nil,List.length_nil]at key
 rw[den_fn t123 _ _ _ rfl]
 simp only[b123]
 simp (maxSteps:=1000000) (disch:=first|omega|assumption|decide +kernel|(simp;done)|(simp;omega)|fail) [hd,h,key]
end Go.Proofs.YthghcainodgnkaaGreat

/-
  Watch: the list of a guess (not built yet).
-/
namespace Go.Proofs.YthghcainodgnkaaGreat
open Go.Ab
def topN(g:Nat):Nat:=((List.range 6).find? fun n=>g>>>n==0).getD 6
def bitF(g:Nat)(a:List Int)(k:Nat):List Int:=if g.testBit k=true then a ++[(k:Int)]else a
theorem top_le: ∀g,g<32→topN g≤5:=by decide +kernel
theorem top_pos: ∀g,g<32→ ∀k,k<topN g→g>>>k≠0:=by
 intro g hg k hk
 have h5:=top_le g hg
 have: ∀g,g<32→ ∀k,k<5→k<topN g→g>>>k≠0:=by decide +kernel
 exact this g hg k (by omega) hk
theorem top_end: ∀g,g<32→g>>>(topN g)=0:=by decide +kernel
theorem top_bits: ∀g,g<32→(List.range (topN g)).foldl (bitF g) []=bitsL g:=by decide +kernel
theorem shr_word {g n:Nat}(hn:n<64):((g:Int)).fdiv (2^min n IntKind.u64.bits)=((g>>>n:Nat):Int):=by
 rw[show min n IntKind.u64.bits=n by have:IntKind.u64.bits=64:=rfl;omega,Nat.shiftRight_eq_div_pow]
 rw[Int.fdiv_eq_ediv_of_nonneg _ (by exact Int.le_of_lt (Int.pow_pos (by decide)))]
 push_cast
 rfl
theorem e0_gHas(g n:Nat)(hg:g<32)(hn:n<64)(lab s):den T0 119 [.int .u64 (g:Nat),i64 n] lab s=some (.bool (g.testBit n),s):=by
 have h1:=shr_word (g:=g) hn
 have h2: ¬(n:Int)<0:=by omega
 rw[den_fn u119 _ _ _ rfl]
 simp only[b119]
 simp (disch:=first|omega|assumption|decide +kernel|(simp;done)|(simp;omega)|fail) [h1,h2]
 have e:((g:Int)>>>n)=((g>>>n:Nat):Int):=rfl
 have hb:g>>>n≤g:=by rw[Nat.shiftRight_eq_div_pow];exact Nat.div_le_self ..
 have hbits:(2:Int)^IntKind.u64.bits=18446744073709551616:=by decide
 have ht:g.testBit n=decide ((g>>>n)%2=1):=by rw[Nat.testBit_eq_decide_div_mod_eq,Nat.shiftRight_eq_div_pow]
 rw[e,ht,hbits]
 generalize g>>>n=h at*
 have e3:max ((h:Int)%18446744073709551616) 0%2=((h%2:Nat):Int):=by omega
 rw[e3]
 rcases Nat.mod_two_eq_zero_or_one h with h0|h0<;>rw[h0]<;>decide
set_option maxHeartbeats 1000000 in
theorem e_list_l(g:Nat)(hg:g<32)(s:Stk):
 Run T b77l0 [(3, .sl (.own s.length 49) 1 []),(0, .int .u64 (g:Nat)),(3, .sl .full 1 []),(4,i64 0)] ([(49, .tok 0)]::s)=
  some (.exit 0,[(0, .int .u64 (g:Nat)),(3, .sl (.own s.length 49) 1 (es cInt (bitsL g))),(4,i64 (topN g:Nat)),(8, .bool false)],[(49, .tok (bitsL g).length)]::s):=by
 have h5:=top_le g hg
 have key:=loop_fold (T:=T) (live:=[0,3,4]) (keep:=[49]) (b:=d77l0) (List.range (topN g)) (fun k (a:List Int)=>a.length≤k) (bitF g)
  (fun k a=>[(0, .int .u64 (g:Nat)),(3, .sl (.own s.length 49) 1 (es cInt a)),(4,i64 (k:Nat))]) (fun _ a=>[(49, .tok a.length)]::s)
  (fun a=>(.exit 0,[(0, .int .u64 (g:Nat)),(3, .sl (.own s.length 49) 1 (es cInt a)),(4,i64 (topN g:Nat)),(8, .bool false)],[(49, .tok a.length)]::s))
  (by simp) ?_ ?_ ?_ [] (by simp) [(3, .sl (.own s.length 49) 1 []),(0, .int .u64 (g:Nat)),(3, .sl .full 1 []),(4,i64 0)] ([(49, .tok 0)]::s) (by simp) (by simp)
 ·rw[top_bits g hg]at key
  exact key
 ·intro k a hk hi
  simp only[List.length_range]at hk
  simp only[List.getElem_range]
  have h1:=shr_word (g:=g) (n:=k) (by omega)
  have h2: ¬(k:Int)<0:=by omega
  have h3:=top_pos g hg k hk
  have h4:=fun lab s=>e_gHas g k hg (by omega) lab s
  have e0:es cInt a ++[[i64 (k:Nat)]]=es cInt (a ++[(k:Int)]):=by simp[es]
  have hk9:k<1000:=by omega
  unfold bitF
  generalize g>>>k=x at*
  have h6:0<x:=by omega
  cases hb:g.testBit k
  ·rw[hb]at h4
   simp (maxSteps:=1000000) (disch:=first|omega|assumption|decide +kernel|(simp;done)|(simp;omega)|fail) [h1,h2,h4,h6,wk k (by omega)]
  ·rw[hb]at h4
   simp (maxSteps:=1000000) (disch:=first|omega|assumption|decide +kernel|(simp;done)|(simp;omega)|fail) [h1,h2,h4,h6,e0,appK_own1,wk k (by omega)]
 ·intro k a hk hi
  unfold bitF
  split<;>(try simp only[List.length_append,List.length_cons,List.length_nil])<;>omega
 ·intro a hi
  simp only[List.length_range]
  have h1:=shr_word (g:=g) (n:=topN g) (by omega)
  rw[top_end g hg]at h1
  have h2: ¬(topN g:Int)<0:=by omega
  generalize topN g=n at*
  simp (maxSteps:=1000000) (disch:=first|omega|assumption|decide +kernel|(simp;done)|(simp;omega)|fail) [h1,h2]
theorem e_list(g:Nat)(hg:g<32)(lab s):den T 77 [.int .u64 (g:Nat)] lab s=some (.sl .no 1 (es cInt (bitsL g)),s):=by
 have key:=e_list_l g hg s
 generalize bitsL g=L at*
 generalize topN g=n at*
 rw[den_fn t77 _ _ _ rfl]
 simp only[b77]
 simp (maxSteps:=1000000) (disch:=first|omega|assumption|decide +kernel|(simp;done)|(simp;omega)|fail) [key]
set_option maxHeartbeats 1000000 in
theorem e0_list_l(g:Nat)(hg:g<32)(s:Stk):
 Run T0 b77l0 [(3, .sl (.own s.length 49) 1 []),(0, .int .u64 (g:Nat)),(3, .sl .full 1 []),(4,i64 0)] ([(49, .tok 0)]::s)=
  some (.exit 0,[(0, .int .u64 (g:Nat)),(3, .sl (.own s.length 49) 1 (es cInt (bitsL g))),(4,i64 (topN g:Nat)),(8, .bool false)],[(49, .tok (bitsL g).length)]::s):=by
 have h5:=top_le g hg
 have key:=loop_fold (T:=T0) (live:=[0,3,4]) (keep:=[49]) (b:=d77l0) (List.range (topN g)) (fun k (a:List Int)=>a.length≤k) (bitF g)
  (fun k a=>[(0, .int .u64 (g:Nat)),(3, .sl (.own s.length 49) 1 (es cInt a)),(4,i64 (k:Nat))]) (fun _ a=>[(49, .tok a.length)]::s)
  (fun a=>(.exit 0,[(0, .int .u64 (g:Nat)),(3, .sl (.own s.length 49) 1 (es cInt a)),(4,i64 (topN g:Nat)),(8, .bool false)],[(49, .tok a.length)]::s))
  (by simp) ?_ ?_ ?_ [] (by simp) [(3, .sl (.own s.length 49) 1 []),(0, .int .u64 (g:Nat)),(3, .sl .full 1 []),(4,i64 0)] ([(49, .tok 0)]::s) (by simp) (by simp)
 ·rw[top_bits g hg]at key
  exact key
 ·intro k a hk hi
  simp only[List.length_range]at hk
  simp only[List.getElem_range]
  have h1:=shr_word (g:=g) (n:=k) (by omega)
  have h2: ¬(k:Int)<0:=by omega
  have h3:=top_pos g hg k hk
  have h4:=fun lab s=>e0_gHas g k hg (by omega) lab s
  have e0:es cInt a ++[[i64 (k:Nat)]]=es cInt (a ++[(k:Int)]):=by simp[es]
  have hk9:k<1000:=by omega
  unfold bitF
  generalize g>>>k=x at*
  have h6:0<x:=by omega
  cases hb:g.testBit k
  ·rw[hb]at h4
   simp (maxSteps:=1000000) (disch:=first|omega|assumption|decide +kernel|(simp;done)|(simp;omega)|fail) [h1,h2,h4,h6,wk k (by omega)]
  ·rw[hb]at h4
   simp (maxSteps:=1000000) (disch:=first|omega|assumption|decide +kernel|(simp;done)|(simp;omega)|fail) [h1,h2,h4,h6,e0,appK_own1,wk k (by omega)]
 ·intro k a hk hi
  unfold bitF
  split<;>(try simp only[List.length_append,List.length_cons,List.length_nil])<;>omega
 ·intro a hi
  simp only[List.length_range]
  have h1:=shr_word (g:=g) (n:=topN g) (by omega)
  rw[top_end g hg]at h1
  have h2: ¬(topN g:Int)<0:=by omega
  generalize topN g=n at*
  simp (maxSteps:=1000000) (disch:=first|omega|assumption|decide +kernel|(simp;done)|(simp;omega)|fail) [h1,h2]
theorem e0_list(g:Nat)(hg:g<32)(lab s):den T0 77 [.int .u64 (g:Nat)] lab s=some (.sl .no 1 (es cInt (bitsL g)),s):=by
 have key:=e0_list_l g hg s
 generalize bitsL g=L at*
 generalize topN g=n at*
 rw[den_fn u77 _ _ _ rfl]
 simp only[b77]
 simp (maxSteps:=1000000) (disch:=first|omega|assumption|decide +kernel|(simp;done)|(simp;omega)|fail) [key]
end Go.Proofs.YthghcainodgnkaaGreat

/-
  Watch: the order of stories (computed where no primitive is) (not built yet).
-/
namespace Go.Proofs.YthghcainodgnkaaGreat
open Go.Ab
theorem e0_isNaN(a:Int)(lab s):den T0 173 [i64 a] lab s=some (.bool false,s):=by
 rw[den_fn u173 _ _ _ rfl]
 simp[b173]
def cmpI(a b:Int):Int:=if a<b then -1 else if b<a then 1 else 0
theorem e0_Compare(a b:Int)(lab s):den T0 156 [i64 a,i64 b] lab s=some (i64 (cmpI a b),s):=by
 rw[den_fn u156 _ _ _ rfl]
 simp only[b156,cmpI]
 by_cases h:a<b
 ·simp (disch:=first|omega|assumption|decide +kernel|(simp;done)|(simp;omega)|fail) [h,e0_isNaN]
 ·by_cases h':b<a<;>simp (disch:=first|omega|assumption|decide +kernel|(simp;done)|(simp;omega)|fail) [h,h',e0_isNaN]
theorem e0_Or(a b:Int)(lab s):den T0 136 [.sl .no 1 [[i64 a],[i64 b]]] lab s=some (i64 (if a≠0 then a else b),s):=by
 have hl: ∀s:Stk,Run T0 b136l0 [(3,i64 0),(6, .sl .no 1 (es cInt [a,b])),(7,i64 2),(8,i64 0)] ([]::s)=
  some (foldS (fun(_:Unit) x=>if x≠0 then .inr (.ret,[(2,i64 x)],[]::s)else .inl ()) (fun _=>(.exit 0,[(3,i64 0),(6, .sl .no 1 (es cInt [a,b])),(7,i64 2),(8,i64 2),(9, .bool false)],[]::s)) [a,b] ()):=by
  intro s
  refine loop_list0 (T:=T0) [a,b] (fun k _=>[(3,i64 0),(6, .sl .no 1 (es cInt [a,b])),(7,i64 2),(8,i64 k)]) (fun _ _=>[]::s) _ _ ?_ ?_ (by simp) (by simp) () _ _ (by simp) (by simp)
  ·intro k _ hk
   have hk':k<2:=by simpa using hk
   have e:([a,b]:List Int)[k]? =some [a,b][k]:=by simp
   generalize hx:[a,b][k]=x at e
   have hk2:(k:Int)<2:=by omega
   by_cases h:x=0<;>simp (disch:=first|omega|assumption|decide +kernel|(simp;done)|(simp;omega)|fail) [hk',hk2,h,hx,wk k (by omega),nxt]
  ·intro _ x q h;split at h<;>simp at h;subst h;simp
 rw[den_fn u136 _ _ _ rfl]
 simp only[b136]
 have e2:([[i64 a],[i64 b]]:List (List V))=es cInt [a,b]:=rfl
 rw[e2]
 by_cases h:a=0
 ·subst h
  by_cases h':b=0
  ·subst h';simp (disch:=first|omega|assumption|decide +kernel|(simp;done)|(simp;omega)|fail) [hl,foldS]
  ·simp (disch:=first|omega|assumption|decide +kernel|(simp;done)|(simp;omega)|fail) [hl,h',foldS]
 ·simp (disch:=first|omega|assumption|decide +kernel|(simp;done)|(simp;omega)|fail) [hl,h,foldS]
def cmpStep(a b:List Int)(k:Nat):Option Int:=if b.length≤k then some 1 else if a.getD k 0<b.getD k 0 then some (-1)else if b.getD k 0<a.getD k 0 then some 1 else none
def cmpF(a b:List Int):Int:=match (List.range a.length).findSome? (cmpStep a b)with
 |some n=>n
 |none=>if a.length<b.length then -1 else 0
theorem foldS_some {α ρ:Type}(f:α→Option Int)(g:Int→ρ)(r:ρ): ∀l:List α,foldS (fun(_:Unit) x=>match f x with|some n=> .inr (g n)|none=> .inl ()) (fun _=>r) l ()=match l.findSome? f with|some n=>g n|none=>r
 |[]=>rfl
 |x::l=>by
   simp only[foldS,List.findSome?]
   cases h:f x<;>simp only[]
   exact foldS_some f g r l
theorem e0_cmp_l(a b:List Int)(hb:b.length<4611686018427387904)(ha:a.length<4611686018427387904)(s:Stk):
 Run T0 b137l0 [(0, .sl .no 1 (es cInt a)),(1, .sl .no 1 (es cInt b)),(9, .sl .no 1 (es cInt a)),(10,i64 a.length),(11,i64 0)] ([]::s)=
  some (match (List.range a.length).findSome? (cmpStep a b)with|some n=>(.ret,[(4,i64 n)],[]::s)|none=>(.exit 0,[(0, .sl .no 1 (es cInt a)),(1, .sl .no 1 (es cInt b)),(9, .sl .no 1 (es cInt a)),(10,i64 a.length),(11,i64 a.length),(12, .bool false)],[]::s)):=by
 rw[←foldS_some]
 refine loop_list0 (T:=T0) (List.range a.length) (fun k _=>[(0, .sl .no 1 (es cInt a)),(1, .sl .no 1 (es cInt b)),(9, .sl .no 1 (es cInt a)),(10,i64 a.length),(11,i64 k)]) (fun _ _=>[]::s) _ _ ?_ ?_ (by simp) (by simp) () _ _ (by simp) (by simp)
 ·intro k _ hk
  have hk:k<a.length:=by simpa using hk
  rw[List.getElem_range]
  have e0:a.getD k 0=a[k]:=by simp[List.getD,hk]
  unfold cmpStep
  by_cases h:b.length≤k
  ·have h':(b.length:Int)≤k:=by omega
   simp (disch:=first|omega|assumption|decide +kernel|(simp;done)|(simp;omega)|fail) [hk,h,h',nxt,wk k (by omega)]
  ·have h': ¬(b.length:Int)≤k:=by omega
   have h2:k<b.length:=by omega
   have h3:(k:Int)<b.length:=by omega
   have e1:b.getD k 0=b[k]:=by simp[List.getD,h2]
   rw[e0,e1]
   by_cases h4:a[k]<b[k]
   ·simp (disch:=first|omega|assumption|decide +kernel|(simp;done)|(simp;omega)|fail) [hk,h,h',h2,h3,h4,nxt,wk k (by omega),e0_Compare,cmpI]
   ·by_cases h5:b[k]<a[k]<;>simp (disch:=first|omega|assumption|decide +kernel|(simp;done)|(simp;omega)|fail) [hk,h,h',h2,h3,h4,h5,nxt,wk k (by omega),e0_Compare,cmpI]
 ·intro _ x q h;cases h2:cmpStep a b x<;>simp[h2]at h;subst h;simp
theorem e0_cmpF(a b:List Int)(hb:b.length<4611686018427387904)(ha:a.length<4611686018427387904)(lab s):den T0 137 [.sl .no 1 (es cInt a), .sl .no 1 (es cInt b)] lab s=some (i64 (cmpF a b),s):=by
 have h:=e0_cmp_l a b hb ha
 rw[den_fn u137 _ _ _ rfl]
 simp only[b137,cmpF]
 cases h1:(List.range a.length).findSome? (cmpStep a b)with
 |none=>
   simp only[h1]at h
   by_cases h2:a.length<b.length
   ·have h3:(a.length:Int)<b.length:=by omega
    simp (disch:=first|omega|assumption|decide +kernel|(simp;done)|(simp;omega)|fail) [h,h2,h3]
   ·have h3: ¬(a.length:Int)<b.length:=by omega
    simp (disch:=first|omega|assumption|decide +kernel|(simp;done)|(simp;omega)|fail) [h,h2,h3]
 |some n=>
   simp only[h1]at h
   simp (disch:=first|omega|assumption|decide +kernel|(simp;done)|(simp;omega)|fail) [h]
theorem cmpF_lex: ∀a b,cmpF a b=lexL a b
 |[],b=>by simp[cmpF,lexL]
 |x::a,[]=>by simp[cmpF,lexL,List.range_succ_eq_map,cmpStep]
 |x::a,y::b=>by
   have ih:=cmpF_lex a b
   simp only[lexL,←ih]
   have e: ∀k,cmpStep (x::a) (y::b) (k+1)=cmpStep a b k:=by intro k;simp[cmpStep]
   have e2:cmpStep (x::a) (y::b)∘Nat.succ=cmpStep a b:=by funext k;exact e k
   unfold cmpF
   rw[List.length_cons,List.range_succ_eq_map,List.findSome?_cons,List.findSome?_map,e2]
   simp only[cmpStep,List.length_cons,List.getD_cons_zero]
   by_cases h:x<y
   ·simp[h]
   ·by_cases h':y<x<;>simp[h,h']
def cStory(b:WBook)(g:Nat):List V:= .int .u64 (g:Nat)::vT (trapOf b (bitsL g))
theorem bits_len: ∀g,(bitsL g).length≤5:=fun g=>by
 unfold bitsL
 rw[List.length_map]
 exact Nat.le_trans (List.length_filter_le ..) (by simp)
set_option maxHeartbeats 1000000 in
theorem e0_cmpS(b:WBook)(g h:Nat)(hg:g<32)(hh:h<32)(lab s):den T0 135 [.agg (cStory b g), .agg (cStory b h)] lab s=some (i64 (cmpL (bitsL g) (bitsL h)),s):=by
 have l1:=bits_len g
 have l2:=bits_len h
 have w1:IntKind.i64.wrap (((bitsL g).length:Int)-(bitsL h).length)=((bitsL g).length:Int)-(bitsL h).length:=wi _ (by omega) (by omega)
 have q1:=fun lab s=>e0_list g hg lab s
 have q2:=fun lab s=>e0_list h hh lab s
 have q3:=fun lab s=>e0_cmpF (bitsL g) (bitsL h) (by omega) (by omega) lab s
 unfold cmpL cStory
 rw[←cmpF_lex]
 clear l1 l2
 generalize bitsL g=x at*
 generalize bitsL h=y at*
 generalize trapOf b x=t1 at*
 generalize trapOf b y=t2 at*
 generalize cmpF x y=c at*
 rw[den_fn u135 _ _ _ rfl]
 simp only[b135]
 simp (maxSteps:=1000000) (disch:=first|omega|assumption|decide +kernel|(simp;done)|(simp;omega)|fail) [run_drawnK,orSlow_none,q1,q2,q3,w1,e0_Or]
end Go.Proofs.YthghcainodgnkaaGreat

/-
  Watch: the stories in order.
-/
namespace Go.Proofs.YthghcainodgnkaaGreat
open Go.Ab
theorem cmpV_story(b:WBook)(g h:Nat)(hg:g<32)(hh:h<32):cmpV T0 true 135 [] (cStory b g) (cStory b h)=some (cmpL (bitsL g) (bitsL h)):=by
 simp[cmpV,e0_cmpS,hg,hh]
theorem story_total(b:WBook)(L:List Nat)(h: ∀g∈L,g<32):Total (cmpV T0 true 135 []) (es (cStory b) L) where
 some x hx y hy:=by
  obtain⟨a,ha,rfl⟩:=List.mem_map.1 hx
  obtain⟨c,hc,rfl⟩:=List.mem_map.1 hy
  exact⟨_,cmpV_story b a c (h a ha) (h c hc)⟩
 irr x hx n hn:=by
  obtain⟨a,ha,rfl⟩:=List.mem_map.1 hx
  rw[cmpV_story b a a (h a ha) (h a ha)]at hn
  cases hn;exact cmpL_irr _
 tr x hx y hy z hz m n k:=by
  obtain⟨a,ha,rfl⟩:=List.mem_map.1 hx
  obtain⟨c,hc,rfl⟩:=List.mem_map.1 hy
  obtain⟨e,he,rfl⟩:=List.mem_map.1 hz
  rw[cmpV_story b a c (h a ha) (h c hc),cmpV_story b c e (h c hc) (h e he),cmpV_story b a e (h a ha) (h e he)]
  rintro⟨⟩ ⟨⟩ ⟨⟩
  exact cmpL_trans _ _ _
 tot x hx y hy m n:=by
  obtain⟨a,ha,rfl⟩:=List.mem_map.1 hx
  obtain⟨c,hc,rfl⟩:=List.mem_map.1 hy
  rw[cmpV_story b a c (h a ha) (h c hc),cmpV_story b c a (h c hc) (h a ha)]
  rintro⟨⟩ ⟨⟩ h1 h2
  rw[bits_inj (h a ha) (h c hc) (cmpL_eq _ _ h1 h2)]
def sortG(b:WBook):List Nat:=(storiesL b).map maskL
theorem sortG_bits {b:WBook}(hT:b.T<6):(sortG b).map bitsL=storiesL b:=by
 unfold sortG
 rw[List.map_map]
 conv=>rhs;rw[←List.map_id (storiesL b)]
 refine List.map_congr_left fun l hl=> ?_
 exact bits_mask l (allL_up hT (story_mem.1 hl).1)
theorem guess_lt {b:WBook}(hT:b.T<6) {g:Nat}(hg:g<2^b.T):g<32:=by
 have:2^b.T≤2^5:=Nat.pow_le_pow_right (by omega) (by omega)
 omega
theorem sortG_lt {b:WBook}(hT:b.T<6) {g:Nat}(hg:g∈sortG b):g<32:=by
 obtain⟨l,hl,rfl⟩:=List.mem_map.1 hg
 exact guess_lt hT (mask_lt _ hT _ (story_mem.1 hl).1)
theorem guessL_lt {b:WBook}(hT:b.T<6) {g:Nat}(hg:g∈guessL b):g<32:=by
 simp only[guessL,List.mem_filter,List.mem_range]at hg
 exact guess_lt hT hg.1
theorem sortG_perm {b:WBook}(hT:b.T<6):(sortG b).Perm (guessL b):=by
 have n2:(guessL b).Nodup:=(List.nodup_range).filter _
 have n1:(sortG b).Nodup:=by
  unfold sortG
  refine List.Pairwise.map _ (R:=fun x y=>cmpL x y<0∧x∈storiesL b∧y∈storiesL b) ?_ ?_
  ·rintro x y ⟨h1,h2,h3⟩ e
   have e2:bitsL (maskL x)=bitsL (maskL y):=by rw[e]
   rw[bits_mask x (allL_up hT (story_mem.1 h2).1),bits_mask y (allL_up hT (story_mem.1 h3).1)]at e2
   subst e2
   exact cmpL_irr _ h1
  ·exact List.Pairwise.imp_of_mem (fun h1 h2 h3=>⟨h3,h1,h2⟩) (stories_sorted b)
 refine(List.perm_ext_iff_of_nodup n1 n2).2 fun g=> ?_
 constructor
 ·intro hg
  obtain⟨l,hl,rfl⟩:=List.mem_map.1 hg
  obtain⟨h,h1,h2⟩:=(guess_mem hT).1 hl
  rw[←h2,mask_bits h (guessL_lt hT h1)]
  exact h1
 ·intro hg
  have hl:=(guess_mem hT).2 ⟨g,hg,rfl⟩
  refine List.mem_map.2 ⟨bitsL g,hl,mask_bits g (guessL_lt hT hg)⟩
theorem story_sortedBy {b:WBook}(hT:b.T<6):SortedBy (cmpV T0 true 135 []) (es (cStory b) (guessL b)) (es (cStory b) (sortG b)):=by
 refine⟨(sortG_perm hT).map _,?_⟩
 unfold es
 rw[List.pairwise_map]
 unfold sortG
 rw[List.pairwise_map]
 refine List.Pairwise.imp_of_mem ?_ (stories_sorted b)
 intro x y hx hy hxy n hn
 have ex:=bits_mask x (allL_up hT (story_mem.1 hx).1)
 have ey:=bits_mask y (allL_up hT (story_mem.1 hy).1)
 rw[cmpV_story b _ _ (guess_lt hT (mask_lt _ hT _ (story_mem.1 hy).1)) (guess_lt hT (mask_lt _ hT _ (story_mem.1 hx).1)),ex,ey]at hn
 cases hn
 intro h
 exact cmpL_irr _ (cmpL_trans _ _ _ hxy h)
theorem sortG_length {b:WBook}(hT:b.T<6):(guessL b).length=(sortG b).length:=(sortG_perm hT).length_eq.symm
theorem sortG_nil {b:WBook}(hT:b.T<6):guessL b=[]↔sortG b=[]:=by
 rw[←List.length_eq_zero_iff,sortG_length hT,List.length_eq_zero_iff]
theorem cStory_ok(b:WBook)(g:Nat):V.elemAll (cStory b g)=true∧(cStory b g).length=5:=by simp[cStory]
theorem e_sortS {b:WBook}(hT:b.T<6)(hne:guessL b≠[])(d:Nat)(lab:Nat)(s:Stk)(hg:sget s d 121=some (.arr 5 (es (cStory b) (guessL b)))):
 den T 134 [.asl d 121 5 (guessL b).length 0 (guessL b).length, .fn 135 [] []] lab s=some (.tup [],sput s d 121 (.arr 5 (es (cStory b) (sortG b)))):=by
 rw[den_prim t134]
 have hlen:0<(guessL b).length:=List.length_pos_iff.2 hne
 have hlt:(guessL b).length≤2^b.T:=by
  have:=List.length_filter_le (fun g=>storyB b (bitsL g)) (List.range (2^b.T))
  simpa [guessL]using this
 have hp:2^b.T≤2^5:=Nat.pow_le_pow_right (by omega) (by omega)
 have hq:sortQ [.asl d 121 5 (guessL b).length 0 (guessL b).length, .fn 135 [] []] lab s=sortP [.asl d 121 5 (guessL b).length 0 (guessL b).length, .fn 135 [] []] lab s:=by
  unfold sortQ
  generalize (guessL b).length=n at*
  split
  ·rename_i h
   simp at h;omega
  ·rfl
 rw[hq]
 unfold sortP
 rw[sortFPK_eq]
 have:=sortFP_eq (T0:=T0) (agg:=true) (d:=d) (l:=121) (sz:=5) (n:=(guessL b).length) (g:=135) (cap:=[]) (lab:=lab) (s:=s)
  (x:= .arr 5 (es (cStory b) (guessL b))) (es:=es (cStory b) (guessL b)) (r:=es (cStory b) (sortG b)) hg rfl (by simp) (fun h=>by cases h) (by simpa using hne) (by simp;omega)
  (by intro x hx;obtain⟨a,_,rfl⟩:=List.mem_map.1 hx;exact(cStory_ok b a).1) rfl (story_total b _ fun g hg=>guessL_lt hT hg) (story_sortedBy hT)
 rw[this]
 rfl
end Go.Proofs.YthghcainodgnkaaGreat

/-
  Watch: a guess's trap (not built yet).
-/
namespace Go.Proofs.YthghcainodgnkaaGreat
open Go.Ab
theorem keepW_congr {ws:List CWord} {p q:Nat→Bool}(h: ∀k,k<ws.length→p k=q k):keepW ws p=keepW ws q:=by
 unfold keepW
 congr 1
 refine List.filter_congr fun k hk=> ?_
 rw[h k (List.mem_range.1 hk)]
theorem bits_contains(g:Nat)(n:Nat)(hn:n<5):(bitsL g).contains (n:Int)=g.testBit n:=by
 rw[Bool.eq_iff_iff,List.contains_eq_mem,decide_eq_true_eq]
 simp only[bitsL,List.mem_map,List.mem_filter,List.mem_range]
 constructor
 ·rintro⟨k,⟨_,h⟩,e⟩
  rw[show n=k by omega];exact h
 ·intro h;exact⟨n,⟨hn,h⟩,rfl⟩
theorem keepW_bits {b:WBook}(h:bookB b=true)(g:Nat): {b.trap with words:=keepW b.trap.words fun k=>g.testBit (b.trap.words.getD k default).time.toNat}=trapOf b (bitsL g):=by
 rw[←keepW_trap b (bitsL g)]
 refine congrArg (fun ws=>({b.trap with words:=ws}:CTrap)) (keepW_congr fun k hk=> ?_)
 have hok:=bookB_ok h
 have hw:=wordOk_iff.1 (hok.trap.word _ (List.getElem_mem hk))
 have ht:=hok.trap.tt
 have e:b.trap.words.getD k default=b.trap.words[k]:=by simp[List.getD,hk]
 rw[e]
 have:=bits_contains g b.trap.words[k].time.toNat (by omega)
 rw[←this]
 congr 1
 omega
theorem e_read1(b:WBook)(g:Nat)(hg:g<32)(d:Nat)(S:Stk)(h1:sget S d 128=some (.cell [.int .u64 (g:Nat)]))(h2:sget S d 32=some (.cell (vB b)))(hd: ¬d=S.length)(k:Nat)(hk:k<b.trap.words.length)(ht:0≤b.trap.words[k].time∧b.trap.words[k].time<5)(lab):
 den T 133 [i64 k, .ptr d 128 0, .ptr d 32 0] lab S=some (.bool (g.testBit (b.trap.words.getD k default).time.toNat),S):=by
 have e:b.trap.words.getD k default=b.trap.words[k]:=by simp[List.getD,hk]
 rw[e]
 generalize hw:b.trap.words[k]=w at*
 obtain⟨w0,w1,w2,w3⟩:=w
 dsimp only at ht⊢
 obtain⟨n,rfl⟩: ∃n:Nat,w0=n:=⟨w0.toNat,by omega⟩
 have hh:=fun lab s=>e_gHas g n hg (by omega) lab s
 simp only[Int.toNat_natCast]
 rw[den_fn t133 _ _ _ rfl]
 simp only[b133]
 simp (maxSteps:=1000000) (disch:=first|omega|assumption|decide +kernel|(simp;done)|(simp;omega)|fail) [run_drawnK,orSlow_none,hd,h1,h2,hk,hw,hh]
theorem oneT_truth {t:CTrap}(h:trapB t=true):decide (openT t true=0)=isOneB t:=by
 rw[openT_of h]
 cases isOneB t<;>simp
def storyF(b:WBook)(a:List Nat)(g:Nat):List Nat:=if storyB b (bitsL g)=true then a ++[g]else a
theorem storyF_fold(b:WBook): ∀(l a:List Nat),l.foldl (storyF b) a=a ++l.filter fun g=>storyB b (bitsL g)
 |[],a=>by simp
 |g::l,a=>by
   rw[List.foldl_cons,storyF_fold b l,List.filter_cons]
   unfold storyF
   cases storyB b (bitsL g)<;>simp
def rdF(b:WBook)(d:Nat)(a:List Nat):Ab.Loc:=[(32, .cell (vB b)),(304, .cell (vK b (.asl d 121 5 a.length 0 a.length))),(121, .arr 5 (es (cStory b) a))]
theorem wu {k:Nat}(h:k<1000):IntKind.u64.wrap ((k:Int)+1)=((k+1:Nat):Int):=by
 have:IntKind.u64.wrap ((k:Int)+1)=((k:Int)+1)%18446744073709551616:=rfl
 rw[this];omega
end Go.Proofs.YthghcainodgnkaaGreat

/-
  Watch: the stories one by one (not built yet).
-/
namespace Go.Proofs.YthghcainodgnkaaGreat
open Go.Ab
@[simp] theorem map_cStory_d(b:WBook)(d keep l):(es (cStory b) l).map (V.mapAll (dropR d keep))=es (cStory b) l:=es_map _ _ (fun _=>by simp[cStory]) _
@[simp] theorem map_cStory_f(b:WBook)(d k z e l):(es (cStory b) l).map (V.mapAll (frzR d k z e))=es (cStory b) l:=es_map _ _ (fun _=>by simp[cStory]) _
@[simp] theorem map_cStory_r(b:WBook)(own d loc ls d' lab l):(es (cStory b) l).map (V.mapAll (renR own d loc ls d' lab))=es (cStory b) l:=es_map _ _ (fun _=>by cases own<;>simp[cStory]<;>rfl) _
@[simp] theorem strip_cStory(b:WBook)(l):(es (cStory b) l).map V.stripAll=es (cStory b) l:=es_strip _ (fun _=>by simp[cStory]) _
@[simp] theorem refs_cStory(b:WBook)(own:Bool)(d:Nat)(l):(es (cStory b) l).flatMap (V.refsAll own d)=[]:=es_refs _ _ _ (fun _=>by cases own<;>simp[cStory,V.refs,Cap.refs]) _
@[simp] theorem elems_cStory(b:WBook)(l):elemsOk (es (cStory b) l) 5=true:=elemsOk_es _ _ (fun _=>by simp[cStory]) _
def addR:AC:=(.region true (spl [⟨(some 36), .mv (.t 7),none,[],[121,888888]⟩,⟨(some 37), .mv (.t 7),none,[],[]⟩,⟨(some 38), .nilck (.t 37),none,[1],[]⟩,⟨(some 39), .faddr 7 (.t 38),none,[2,1],[]⟩,⟨(some 40), .load none (.t 39),none,[3,2,1],[]⟩,⟨(some 41), .load none (.t 8),none,[],[]⟩,⟨(some 42), .load (some 4) (.t 9),none,[],[]⟩,⟨(some 43), .build [(.int .u64 0),(i64 0),(i64 0),(.sl .full 1 []),(.sl .full 4 [])] [(0,1,(.t 41)),(1,4,(.t 42))],none,[5,6],[]⟩,⟨(some 44), .lit [(.int .u64 0),(i64 0),(i64 0),(.sl .full 1 []),(.sl .full 4 [])] 1 [(0,(.t 43))],none,[7,5,6],[]⟩,⟨(some 45), .app 5 72 (.t 40) (.t 44),none,[4,8,3,2,1,7,5,6],[]⟩] [⟨(some 46), .nilck (.t 36),none,[0,9,4,8,3,2,1,7,5,6],[]⟩,⟨(some 47), .faddr 7 (.t 46),none,[10,0,9,4,8,3,2,1,7,5,6],[]⟩,⟨none, .store 1 (.t 47) (.t 45),none,[11,10,0,9,4,8,3,2,1,7,5,6],[]⟩]) [2,7,23,24])
theorem d_read_l0:d89l0= .seq (.region false [⟨(some 25), .bin .lss (.t 24) (.t 23),none,[],[]⟩] [2,7,23,24,25]) (.seq (.cond (.t 25) ( .skip) ( .exit 0)) (.seq (.block 1 (.seq (.region false [⟨(some 26), .mv (.t 24),none,[],[]⟩,⟨(some 8), .alloc [(.int .u64 0)],none,[],[]⟩,⟨none, .store 1 (.t 8) (.t 26),none,[],[]⟩] [2,7,8,23,24]) (.seq (.seq ( .region false [⟨(some 27), .mv (.t 7),none,[],[]⟩,⟨(some 28), .load none (.t 8),none,[],[]⟩,⟨(some 29), .call 121 [(.t 27),(.t 28)],none,[],[]⟩,⟨(some 30), .un .not (.t 29),none,[],[]⟩] [2,7,8,23,24,30]) ( .cond (.t 30) ( .exit 1) ( .skip))) (.seq (.region false [⟨(some 31), .mv (.t 7),none,[],[]⟩,⟨(some 32), .mkfn 133 [] [(.t 8),(.t 2)],none,[],[]⟩,⟨(some 33), .call 123 [(.t 31),(.t 32)],none,[],[]⟩,⟨(some 9), .alloc [(i64 0),(i64 0),(.sl .full 1 []),(.sl .full 4 [])],none,[],[]⟩,⟨none, .store 4 (.t 9) (.t 33),none,[],[]⟩] [2,7,8,9,23,24]) (.seq (.region false [⟨(some 34), .load (some 4) (.t 9),none,[],[]⟩,⟨(some 35), .call 122 [(.t 34)],none,[],[]⟩] [2,7,8,9,23,24,35]) (.cond (.t 35) addR .skip)))))) (.region false [⟨(some 48), .bin .add (.t 24) (.c (.int .u64 1)),none,[],[]⟩,⟨(some 24), .mv (.t 48),none,[],[]⟩] [2,7,23,24]))):=rfl
set_option maxHeartbeats 4000000 in
theorem e_addR(b:WBook)(s:Stk)(a:List Nat)(k:Nat)(t2:CTrap)(N:Nat)(e0:es (cStory b) a ++[[.int .u64 (k:Nat),i64 t2.chambers,i64 t2.times, .sl .no 1 (es cInts t2.opn), .sl .no 4 (es cWord t2.words)]]=es (cStory b) (a ++[k]))(q1:(a.length+1)*72≤140737488355328)(q2:a.length+1<140737488355328):
 Run T addR [(2, .ptr s.length 32 0),(7, .ptr s.length 304 0),(8, .ptr s.length 128 0),(9, .ptr s.length 144 0),(23, .int .u64 (N:Nat)),(24, .int .u64 (k:Nat)),(35, .bool true)] ([(32, .cell (vB b)),(304, .cell (vK b (.asl s.length 121 5 a.length 0 a.length))),(121, .arr 5 (es (cStory b) a)),(128, .cell [.int .u64 (k:Nat)]),(144, .cell (vT t2))]::s)=
  some (.normal,[(2, .ptr s.length 32 0),(7, .ptr s.length 304 0),(23, .int .u64 (N:Nat)),(24, .int .u64 (k:Nat))],[(32, .cell (vB b)),(304, .cell (vK b (.asl s.length 121 5 (a ++[k]).length 0 (a ++[k]).length))),(121, .arr 5 (es (cStory b) (a ++[k]))),(128, .cell [.int .u64 (k:Nat)]),(144, .cell (vT t2))]::s):=by
 unfold addR
 simp (maxSteps:=6000000) (disch:=first|omega|assumption|decide +kernel|(simp;done)|(simp;omega)|fail) [run_drawnK,q1,q2,appDA_one]
 exact e0
end Go.Proofs.YthghcainodgnkaaGreat

/-
  Watch: the stories one by one, whole (not built yet).
-/
namespace Go.Proofs.YthghcainodgnkaaGreat
open Go.Ab
set_option maxHeartbeats 4000000 in
theorem e_read_l(b:WBook)(hB:bookB b=true)(hc:CopyB b)(s:Stk):
 Run T b89l0 [(2, .ptr s.length 32 0),(7, .ptr s.length 304 0),(23, .int .u64 ((2^b.T:Nat):Int)),(24, .int .u64 0)] (rdF b s.length []::s)=
  some (.exit 0,[(2, .ptr s.length 32 0),(7, .ptr s.length 304 0),(23, .int .u64 ((2^b.T:Nat):Int)),(24, .int .u64 ((2^b.T:Nat):Int)),(25, .bool false)],rdF b s.length (guessL b)::s):=by
 have hok:=bookB_ok hB
 have ht:=bookB_trap hB
 have hT:=hok.t6
 have hp:2^b.T≤2^5:=Nat.pow_le_pow_right (by omega) (by omega)
 have key:=loop_fold (T:=T) (live:=[2,7,23,24]) (keep:=[32,121,304]) (b:=d89l0) (List.range (2^b.T)) (fun k (a:List Nat)=>a.length≤k) (storyF b)
  (fun k _=>[(2, .ptr s.length 32 0),(7, .ptr s.length 304 0),(23, .int .u64 ((2^b.T:Nat):Int)),(24, .int .u64 (k:Nat))]) (fun _ a=>rdF b s.length a::s)
  (fun a=>(.exit 0,[(2, .ptr s.length 32 0),(7, .ptr s.length 304 0),(23, .int .u64 ((2^b.T:Nat):Int)),(24, .int .u64 ((2^b.T:Nat):Int)),(25, .bool false)],rdF b s.length a::s))
  (by simp) ?_ ?_ ?_ [] (by simp) [(2, .ptr s.length 32 0),(7, .ptr s.length 304 0),(23, .int .u64 ((2^b.T:Nat):Int)),(24, .int .u64 0)] (rdF b s.length []::s) (by simp) (by simp[rdF])
 ·rw[storyF_fold,List.nil_append]at key
  exact key
 ·intro k a hk hi
  simp only[List.length_range]at hk
  simp only[List.getElem_range]
  have hk32:k<32:=by omega
  have hs5:=allL_up hT hok.sober
  have eg:=canG_eq (g:=k) hok.run.1 hs5 hk32
  have h1:=fun(F:Ab.Loc) (hF:F.get 304=some (.cell (vK b (.asl s.length 121 5 a.length 0 a.length)))) lab=>e_canBe b (.asl s.length 121 5 a.length 0 a.length) k hk32 hs5 s.length 304 (F::s) (by simp) (by simp[hF]) lab
  rw[eg]at h1
  have hwt: ∀j (hj:j<b.trap.words.length),0≤b.trap.words[j].time∧b.trap.words[j].time<5:=fun j hj=>by
   have hw:=wordOk_iff.1 (hok.trap.word _ (List.getElem_mem hj))
   have:=hok.trap.tt
   omega
  have h2:=fun(F:Ab.Loc) (hF:F.get 304=some (.cell (vK b (.asl s.length 121 5 a.length 0 a.length)))) (hF1:F.get 128=some (.cell [.int .u64 (k:Nat)])) (hF2:F.get 32=some (.cell (vB b))) lab=>
   e_without b hc.trap.words (.asl s.length 121 5 a.length 0 a.length) s.length 304 133 [.ptr s.length 128 0, .ptr s.length 32 0] (fun j=>k.testBit (b.trap.words.getD j default).time.toNat) (F::s) (by simp) (by simp[hF]) (by simp) (by intro keep;simp)
    (fun j hj L lab=>e_read1 b k hk32 s.length (L::F::s) (by simp[hF1]) (by simp[hF2]) (by simp;omega) j hj (hwt j hj) lab) lab
  rw[keepW_bits hB k]at h2
  have hsh:ShortT (trapOf b (bitsL k)):=⟨by have:=hc.trap.opn;show b.trap.opn.length<_;omega,by have:=hc.trap.words;have:=List.length_filter_le (fun w:CWord=> !(bitsL k).contains w.time) b.trap.words;show(b.trap.words.filter _).length<_;omega,fun l hl=>trapOf_open hB _ l hl⟩
  have h3:=fun lab s=>e_hasTruth (trapOf b (bitsL k)) hsh lab s
  rw[oneT_truth (trapB_less ht (bitsL k))]at h3
  have e0:es (cStory b) a ++[.int .u64 (k:Nat)::vT (trapOf b (bitsL k))]=es (cStory b) (a ++[k]):=by simp[es,cStory]
  have hk2:(k:Int)<((2^b.T:Nat):Int):=by omega
  have hw:=wu (k:=k) (by omega)
  have q1:(a.length+1)*72≤140737488355328:=by omega
  have q2:a.length+1<140737488355328:=by omega
  unfold storyF storyB
  clear eg hwt hsh hp
  rw[d_read_l0]
  generalize isOneB (trapOf b (bitsL k))=o at*
  generalize canB b (bitsL k)=c at*
  generalize trapOf b (bitsL k)=t2 at*
  generalize 2^b.T=N at*
  cases c
  ·simp (maxSteps:=1000000) (disch:=first|omega|assumption|decide +kernel|(simp;done)|(simp;omega)|fail) [rdF,hk2,h1,hw]
  ·cases o
   ·simp (maxSteps:=1000000) (disch:=first|omega|assumption|decide +kernel|(simp;done)|(simp;omega)|fail) [rdF,hk2,h1,h2,h3,hw]
   ·have h4:=e_addR b s a k t2 N e0 q1 q2
    simp (maxSteps:=1000000) (disch:=first|omega|assumption|decide +kernel|(simp;done)|(simp;omega)|fail) [rdF,hk2,h1,h2,h3,hw,h4]
 ·intro k a hk hi
  unfold storyF
  split<;>(try simp only[List.length_append,List.length_cons,List.length_nil])<;>omega
 ·intro a hi
  simp only[List.length_range]
  generalize 2^b.T=N at*
  simp[rdF]
end Go.Proofs.YthghcainodgnkaaGreat

/-
  Watch: the sort of no stories; the sort, whole (not built yet).
-/
namespace Go.Proofs.YthghcainodgnkaaGreat
open Go.Ab
set_option maxRecDepth 100000 in
theorem v_Len64(lab s):den TE 172 [.int .u64 0] lab s=some (i64 0,s):=by
 rw[den_fn v172 _ _ _ rfl]
 delta b172
 have w8:IntKind.u8.wrap 0=0:=by decide
 have w0:IntKind.i64.wrap 0=0:=by decide
 simp (maxSteps:=1000000) (disch:=first|omega|assumption|decide +kernel|(simp;done)|(simp;omega)|fail) [w8,w0]
theorem v_Len(lab s):den TE 155 [.int .u64 0] lab s=some (i64 0,s):=by
 rw[den_fn v155 _ _ _ rfl]
 simp only[b155]
 simp (maxSteps:=1000000) (disch:=first|omega|assumption|decide +kernel|(simp;done)|(simp;omega)|fail) [v_Len64]
theorem v_ins(d:Nat)(S:Stk)(hd:d<S.length)(lab):den TE 163 [.asl d 121 5 0 0 0,i64 0,i64 0, .fn 135 [] []] lab S=some (.tup [],S):=by
 have h1: ¬d=S.length:=by omega
 rw[den_fn v163 _ _ _ rfl]
 simp only[b163,b163l0]
 simp (maxSteps:=1000000) (disch:=first|omega|assumption|decide +kernel|(simp;done)|(simp;omega)|fail) [run_loop,h1,wi]
theorem v_pdq(d:Nat)(S:Stk)(hd:d<S.length)(lab):den TE 154 [.asl d 121 5 0 0 0,i64 0,i64 0,i64 0, .fn 135 [] []] lab S=some (.tup [],S):=by
 have h1: ¬d=S.length:=by omega
 have h2:=fun(F:Ab.Loc) lab=>v_ins d (F::S) (by simp;omega) lab
 rw[den_fn v154 _ _ _ rfl]
 simp only[b154,b154l0]
 simp (maxSteps:=1000000) (disch:=first|omega|assumption|decide +kernel|(simp;done)|(simp;omega)|fail) [run_loop,h1,h2,wi]
theorem v_sort(d:Nat)(S:Stk)(hd:d<S.length)(hs:sget S d 121=some (.arr 5 []))(lab):den TE 134 [.asl d 121 5 0 0 0, .fn 135 [] []] lab S=some (.tup [],S):=by
 have h1: ¬d=S.length:=by omega
 have h2:=fun(F:Ab.Loc) lab=>v_pdq d (F::S) (by simp;omega) lab
 have w0:IntKind.u64.wrap 0=0:=by decide
 rw[den_fn v134 _ _ _ rfl]
 simp only[b134]
 simp (maxSteps:=1000000) (disch:=first|omega|assumption|decide +kernel|(simp;done)|(simp;omega)|fail) [h1,h2,hs,w0,v_Len]
theorem e_sortR {b:WBook}(hT:b.T<6)(lab:Nat)(s:Stk):
 den T 134 [.asl s.length 121 5 (guessL b).length 0 (guessL b).length, .fn 135 [] []] lab (rdF b s.length (guessL b)::s)=some (.tup [],rdF b s.length (sortG b)::s):=by
 by_cases h:guessL b=[]
 ·have h2:=(sortG_nil hT).1 h
  rw[h,h2]
  rw[den_prim t134]
  have:=v_sort s.length (rdF b s.length []::s) (by simp) (by simp[rdF]) lab
  unfold sortQ
  simpa using this
 ·have:=e_sortS hT h s.length lab (rdF b s.length (guessL b)::s) (by simp[rdF])
  rw[this]
  have e:=sortG_length hT
  simp[rdF,e]
end Go.Proofs.YthghcainodgnkaaGreat

/-
  Watch: read, told (not built yet).
-/
namespace Go.Proofs.YthghcainodgnkaaGreat
open Go.Ab
abbrev stG(b:WBook):V:= .sl .no 5 (es (cStory b) (sortG b))
theorem pow_u64: ∀T,T<6→IntKind.u64.wrap (2^min T IntKind.u64.bits)=((2^T:Nat):Int):=by decide +kernel
set_option maxHeartbeats 2000000 in
theorem e_read_no(b:WBook)(hc:CopyB b)(is:Bool)(h:ask11 b is≠0)(lab s):den T 89 [.agg (vB b), .bool is] lab s=some (.tup [.nilp,i64 (ask11 b is)],s):=by
 have h1:=fun lab s=>e_CheckW b hc lab s
 unfold ask11 at h⊢
 rw[den_fn t89 _ _ _ rfl]
 simp only[b89]
 cases c:bookB b
 ·simp (maxSteps:=1000000) (disch:=first|omega|assumption|decide +kernel|(simp;done)|(simp;omega)|fail) [h1,c]
 ·cases is
  ·simp (maxSteps:=1000000) (disch:=first|omega|assumption|decide +kernel|(simp;done)|(simp;omega)|fail) [h1,c]
  ·rw[c]at h;simp at h
set_option maxHeartbeats 4000000 in
theorem e_read(b:WBook)(hB:bookB b=true)(hc:CopyB b)(loc:Ab.Loc)(s:Stk)(lab)(k0:loc.get lab=none):
 den T 89 [.agg (vB b), .bool true] lab (loc::s)=some (.tup [.ptr s.length lab 0,i64 0],loc.put lab (.cell (vK b (stG b)))::s):=by
 have hok:=bookB_ok hB
 have hT:=hok.t6
 have htt:=hok.trap.tt
 have h1:=fun lab s=>e_CheckW b hc lab s
 have h2:=e_read_l b hB hc (loc::s)
 have h3:=fun lab=>e_sortR hT lab (loc::s)
 have eT:b.trap.times=((b.T:Nat):Int):=by have:b.T=b.trap.times.toNat:=rfl;omega
 have w1:=pow_u64 b.T hT
 have hn: ¬((b.T:Nat):Int)<0:=by omega
 rw[hB]at h1
 simp only[rdF,List.length_cons,es_nil,List.length_nil]at h2 h3
 rw[←eT]at hn
 unfold stG
 generalize guessL b=A at*
 generalize sortG b=B at*
 generalize (2:Nat)^b.T=N at*
 have e9:min b.trap.times.toNat IntKind.u64.bits=min b.T IntKind.u64.bits:=rfl
 rw[den_fn t89 _ _ _ rfl]
 simp only[b89]
 simp (maxSteps:=6000000) (disch:=first|omega|assumption|decide +kernel|(simp;done)|(simp;omega)|fail) [h1,h2,h3,hn,e9,w1,k0]
end Go.Proofs.YthghcainodgnkaaGreat

/-
  Watch: told (not built yet).
-/
namespace Go.Proofs.YthghcainodgnkaaGreat
open Go.Ab
theorem sortG_nil2(b:WBook):sortG b=[]↔storiesL b=[]:=by unfold sortG;exact List.map_eq_nil_iff
theorem sortG_len2(b:WBook):(sortG b).length=(storiesL b).length:=by unfold sortG;exact List.length_map ..
set_option maxHeartbeats 4000000 in
theorem e_told_no(b:WBook)(hc:CopyB b)(is:Bool)(h:open11 b is≠0)(lab s):den T 76 [.agg (vB b), .bool is] lab s=some (.tup [.nilp,i64 (open11 b is)],s):=by
 unfold open11 at h⊢
 by_cases h0:ask11 b is=0
 ·obtain⟨hB,rfl⟩:=ask11_ok h0
  rw[if_pos h0]at h⊢
  have hn:storiesL b=[]:=by by_cases e:storiesL b=[];exact e;rw[if_neg e]at h;exact absurd rfl h
  have h2:=fun(F:Ab.Loc) lab k0=>e_read b hB hc F s lab k0
  unfold stG at h2
  rw[(sortG_nil2 b).2 hn]at h2
  rw[if_pos hn]
  rw[den_fn t76 _ _ _ rfl]
  simp only[b76]
  simp (maxSteps:=6000000) (disch:=first|omega|assumption|decide +kernel|(simp;done)|(simp;omega)|fail) [h2]
 ·have h1:=fun lab s=>e_read_no b hc is h0 lab s
  rw[if_neg h0]at h⊢
  rw[den_fn t76 _ _ _ rfl]
  simp only[b76]
  simp (maxSteps:=6000000) (disch:=first|omega|assumption|decide +kernel|(simp;done)|(simp;omega)|fail) [h1,h0]
set_option maxHeartbeats 4000000 in
theorem e_told(b:WBook)(hc:CopyB b)(is:Bool)(h:open11 b is=0)(loc:Ab.Loc)(s:Stk)(lab)(k0:loc.get lab=none):
 den T 76 [.agg (vB b), .bool is] lab (loc::s)=some (.tup [.ptr s.length lab 0,i64 0],loc.put lab (.cell (vK b (stG b)))::s):=by
 obtain⟨hB,rfl,hn⟩:=open11_ok h
 have h2:=fun(F:Ab.Loc) lab k0=>e_read b hB hc F (loc::s) lab k0
 have hne: ¬(sortG b).length=0:=by rw[sortG_len2];simpa using hn
 unfold stG at h2⊢
 generalize sortG b=G at*
 rw[den_fn t76 _ _ _ rfl]
 simp only[b76]
 simp (maxSteps:=6000000) (disch:=first|omega|assumption|decide +kernel|(simp;done)|(simp;omega)|fail) [h2,hne,k0]
end Go.Proofs.YthghcainodgnkaaGreat

/-
  Watch: Good (not built yet).
-/
namespace Go.Proofs.YthghcainodgnkaaGreat
open Go.Ab
end Go.Proofs.YthghcainodgnkaaGreat

/-
  Watch: Stories, Least, many, Drunk (not built yet).
-/
namespace Go.Proofs.YthghcainodgnkaaGreat
open Go.Ab
set_option maxHeartbeats 2000000 in
theorem e_StoriesW(b:WBook)(hc:CopyB b)(lab s):den T 41 [.agg (vB b)] lab s=some (.tup [i64 (if bookB b=true then((storiesL b).length:Int)else 0),i64 (if bookB b=true then 0 else 110)],s):=by
 cases hB:bookB b
 ·have h1:=fun lab s=>e_read_no b hc true (by unfold ask11;rw[hB];simp) lab s
  have e:ask11 b true=110:=by unfold ask11;rw[hB];rfl
  rw[e]at h1
  rw[den_fn t41 _ _ _ rfl]
  simp only[b41]
  simp (maxSteps:=6000000) (disch:=first|omega|assumption|decide +kernel|(simp;done)|(simp;omega)|fail) [h1]
 ·have h2:=fun(F:Ab.Loc) lab k0=>e_read b hB hc F s lab k0
  unfold stG at h2
  rw[←sortG_len2]
  generalize sortG b=G at*
  rw[den_fn t41 _ _ _ rfl]
  simp only[b41]
  simp (maxSteps:=6000000) (disch:=first|omega|assumption|decide +kernel|(simp;done)|(simp;omega)|fail) [h2]
set_option maxHeartbeats 2000000 in
theorem e_LeastW(b:WBook)(hc:CopyB b)(lab s):den T 20 [.agg (vB b)] lab s=some (.tup [.sl .no 1 (es cInt (if open11 b true=0 then(storiesL b).headD []else [])),i64 (open11 b true)],s):=by
 by_cases h:open11 b true=0
 ·have h2:=fun(F:Ab.Loc) lab k0=>e_told b hc true h F s lab k0
  obtain⟨hB,_,hn⟩:=open11_ok h
  have hT:=(bookB_ok hB).t6
  have hb:=sortG_bits hT
  rw[if_pos h,h]
  unfold stG at h2
  cases hG:sortG b with
  |nil=>exact absurd ((sortG_nil2 b).1 hG) hn
  |cons g G=>
    rw[hG]at hb h2
    have hg:g<32:=sortG_lt hT (by rw[hG];exact List.mem_cons_self ..)
    have h3:=fun lab s=>e_list g hg lab s
    have e:(storiesL b).headD []=bitsL g:=by rw[←hb];rfl
    rw[e]
    simp only[es,List.map_cons,cStory]at h2
    generalize trapOf b (bitsL g)=t2 at*
    generalize bitsL g=x at*
    generalize List.map _ G=M at*
    rw[den_fn t20 _ _ _ rfl]
    simp only[b20]
    simp (maxSteps:=6000000) (disch:=first|omega|assumption|decide +kernel|(simp;done)|(simp;omega)|fail) [h2,h3]
 ·have h1:=fun lab s=>e_told_no b hc true h lab s
  rw[if_neg h]
  rw[den_fn t20 _ _ _ rfl]
  simp only[b20]
  simp (maxSteps:=6000000) (disch:=first|omega|assumption|decide +kernel|(simp;done)|(simp;omega)|fail) [h1,h]
end Go.Proofs.YthghcainodgnkaaGreat

/-
  Watch: Must (not built yet).
-/
namespace Go.Proofs.YthghcainodgnkaaGreat
open Go.Ab
def allG(L:List Nat):Nat:=L.foldl (fun a g=>a&&&g) 18446744073709551615
theorem and_u64 {a g:Nat}(ha:a<18446744073709551616)(hg:g<32):IntKind.u64.wrap ((a%2^IntKind.u64.bits&&&g%2^IntKind.u64.bits:Nat):Int)=((a&&&g:Nat):Int):=by
 have hb:2^IntKind.u64.bits=18446744073709551616:=by decide
 rw[hb,Nat.mod_eq_of_lt ha,Nat.mod_eq_of_lt (by omega)]
 have h1:a&&&g≤g:=Nat.and_le_right
 have:IntKind.u64.wrap ((a&&&g:Nat):Int)=((a&&&g:Nat):Int)%18446744073709551616:=rfl
 rw[this];omega
theorem allG_test(n:Nat)(hn:n<64): ∀(L:List Nat) (a:Nat),(L.foldl (fun a g=>a&&&g) a).testBit n=(a.testBit n&&L.all fun g=>g.testBit n)
 |[],a=>by simp
 |g::L,a=>by rw[List.foldl_cons,allG_test n hn L,Nat.testBit_and,List.all_cons,Bool.and_assoc]
theorem all_ones(n:Nat)(hn:n<64):Nat.testBit 18446744073709551615 n=true:=by
 have: ∀n,n<64→Nat.testBit 18446744073709551615 n=true:=by decide +kernel
 exact this n hn
theorem andG_le: ∀(L:List Nat) (a:Nat),L.foldl (fun a g=>a&&&g) a≤a
 |[],a=>Nat.le_refl _
 |g::L,a=>Nat.le_trans (andG_le L (a&&&g)) Nat.and_le_left
theorem allG_lt {L:List Nat}(hne:L≠[])(h: ∀g,g∈L→g<32):allG L<32:=by
 cases L with
 |nil=>exact absurd rfl hne
 |cons g L=>
   have h1:=andG_le L (18446744073709551615&&&g)
   have h2:18446744073709551615&&&g≤g:=Nat.and_le_right
   have h3:=h g (List.mem_cons_self ..)
   unfold allG
   rw[List.foldl_cons];omega
theorem must_bits {b:WBook}(hB:bookB b=true)(hne:storiesL b≠[]):bitsL (allG (sortG b))=mustL b:=by
 have hT:=(bookB_ok hB).t6
 have hp:=(bookB_ok hB).pos
 unfold bitsL mustL
 congr 1
 have e5:List.range 5=List.range b.T ++(List.range (5-b.T)).map (b.T+ ·):=by
  rw[←List.range_add,show b.T+(5-b.T)=5 by omega]
 have ht: ∀n,n<5→(allG (sortG b)).testBit n=(storiesL b).all fun l=>l.contains (n:Int):=fun n hn=>by
  unfold allG
  rw[allG_test n (by omega),all_ones n (by omega),Bool.true_and,←sortG_bits hT,List.all_map]
  rw[Bool.eq_iff_iff,List.all_eq_true,List.all_eq_true]
  refine⟨fun h g hg=> ?_,fun h g hg=> ?_⟩
  ·show(bitsL g).contains (n:Int)=true
   rw[bits_contains g n hn];exact h g hg
  ·have:=h g hg
   rw[←bits_contains g n hn];exact this
 rw[e5,List.filter_append]
 have e0:((List.range (5-b.T)).map (b.T+ ·)).filter (fun n=>(allG (sortG b)).testBit n)=[]:=by
  rw[List.filter_eq_nil_iff]
  intro n hn hc
  obtain⟨k,hk,rfl⟩:=List.mem_map.1 hn
  have hk:=List.mem_range.1 hk
  rw[ht _ (by omega)]at hc
  obtain⟨l,hl⟩:=List.exists_mem_of_ne_nil _ hne
  have h1:=List.all_eq_true.1 hc l hl
  have h2:=(stories_len hB).2 l hl
  have h3:=h2.2.2 ((b.T+k:Nat):Int) (by simpa using h1)
  omega
 rw[e0,List.append_nil]
 refine List.filter_congr fun n hn=>ht n ?_
 have:=List.mem_range.1 hn;omega
set_option maxHeartbeats 2000000 in
theorem e_Must_lw(b:WBook)(G:List Nat)(hG:G.length<1000000)(hG2: ∀g,g∈G→g<32)(s:Stk):
 Run T b21l0 [(6, .int .u64 18446744073709551615),(20, .sl .no 5 (es (cStory b) G)),(21,i64 G.length),(22,i64 0)] ([(16, .cell (vB b)),(176, .cell (vK b (.sl .no 5 (es (cStory b) G))))]::s)=some (.exit 0,[(6, .int .u64 (((G).foldl (fun a g=>a&&&g) 18446744073709551615):Nat)),(20, .sl .no 5 (es (cStory b) G)),(21,i64 G.length),(22,i64 ((G).length:Nat)),(23, .bool false)],[(16, .cell (vB b)),(176, .cell (vK b (.sl .no 5 (es (cStory b) G))))]::s):=by
 have key:=loop_fold (T:=T) (live:=[6,20,21,22]) (keep:=[16,176,512]) (b:=d21l0) (G) (fun k a=>a<18446744073709551616) (fun a g=>a&&&g) (fun k (a:Nat)=>[(6, .int .u64 (a:Nat)),(20, .sl .no 5 (es (cStory b) G)),(21,i64 G.length),(22,i64 (k:Nat))]) (fun k (a:Nat)=>[(16, .cell (vB b)),(176, .cell (vK b (.sl .no 5 (es (cStory b) G))))]::s) (fun(a:Nat)=>(.exit 0,[(6, .int .u64 (a:Nat)),(20, .sl .no 5 (es (cStory b) G)),(21,i64 G.length),(22,i64 ((G).length:Nat)),(23, .bool false)],[(16, .cell (vB b)),(176, .cell (vK b (.sl .no 5 (es (cStory b) G))))]::s)) (by simp) ?_ ?_ ?_ 18446744073709551615 (by decide) [(6, .int .u64 18446744073709551615),(20, .sl .no 5 (es (cStory b) G)),(21,i64 G.length),(22,i64 0)] ([(16, .cell (vB b)),(176, .cell (vK b (.sl .no 5 (es (cStory b) G))))]::s) (by simp) (by simp)
 ·exact key
 ·intro k a hk hi
  have hk2:(k:Int)<G.length:=by omega
  have hg:=hG2 _ (List.getElem_mem hk)
  have hx:cStory b G[k]= .int .u64 (G[k]:Nat)::vT (trapOf b (bitsL G[k])):=rfl
  have hw:=and_u64 hi hg
  generalize trapOf b (bitsL G[k])=t2 at*
  generalize hy:G[k]=w at*
  simp (maxSteps:=1000000) (disch:=first|omega|assumption|decide +kernel|(simp;done)|(simp;omega)|fail) [hk,hk2,hy,hx,hw,wk k (by omega)]
 ·intro k a hk hi
  exact Nat.lt_of_le_of_lt Nat.and_le_left hi
 ·intro a hi
  simp
set_option maxHeartbeats 2000000 in
theorem e_MustW(b:WBook)(hc:CopyB b)(lab s):den T 21 [.agg (vB b)] lab s=some (.tup [.sl .no 1 (es cInt (if open11 b true=0 then mustL b else [])),i64 (open11 b true)],s):=by
 by_cases h:open11 b true=0
 ·have h2:=fun(F:Ab.Loc) lab k0=>e_told b hc true h F s lab k0
  obtain⟨hB,_,hne⟩:=open11_ok h
  have hT:=(bookB_ok hB).t6
  have hG:(sortG b).length<1000000:=by rw[sortG_len2];have:=(stories_len hB).1;omega
  have hl:=e_Must_lw b (sortG b) hG (fun g hg=>sortG_lt hT hg) s
  rw[show(sortG b).foldl (fun a g=>a&&&g) 18446744073709551615=allG (sortG b)from rfl]at hl
  have hlt:=allG_lt (fun e=>hne ((sortG_nil2 b).1 e)) (fun g hg=>sortG_lt hT hg)
  have h3:=fun lab s=>e_list (allG (sortG b)) hlt lab s
  rw[must_bits hB hne]at h3
  rw[if_pos h,h]
  unfold stG at h2
  generalize mustL b=M at*
  generalize allG (sortG b)=A at*
  generalize sortG b=G at*
  rw[den_fn t21 _ _ _ rfl]
  simp only[b21]
  simp (maxSteps:=6000000) (disch:=first|omega|assumption|decide +kernel|(simp;done)|(simp;omega)|fail) [h2,h3,hl]
 ·have h1:=fun lab s=>e_told_no b hc true h lab s
  rw[if_neg h]
  rw[den_fn t21 _ _ _ rfl]
  simp only[b21]
  simp (maxSteps:=6000000) (disch:=first|omega|assumption|decide +kernel|(simp;done)|(simp;omega)|fail) [h1,h]
end Go.Proofs.YthghcainodgnkaaGreat

/-
  Watch: Ask (not built yet).
-/
namespace Go.Proofs.YthghcainodgnkaaGreat
open Go.Ab
end Go.Proofs.YthghcainodgnkaaGreat

/-
  Watch: Lies (not built yet).
-/
namespace Go.Proofs.YthghcainodgnkaaGreat
open Go.Ab
def cntJ(b:WBook)(w:CWord)(a:Nat×Nat)(l:List Int):Nat×Nat:=if judgeW b l w=1 then(a.1+1,a.2)else if judgeW b l w=2 then(a.1,a.2+1)else a
theorem cntJ_fold(b:WBook)(w:CWord): ∀(L:List (List Int)) (a:Nat×Nat),L.foldl (cntJ b w) a=(a.1+L.countP fun l=>decide (judgeW b l w=1),a.2+L.countP fun l=>decide (judgeW b l w=2))
 |[],a=>by simp
 |l::L,a=>by
   rw[List.foldl_cons,cntJ_fold b w L,List.countP_cons,List.countP_cons]
   unfold cntJ
   by_cases h1:judgeW b l w=1
   ·simp[h1];omega
   ·by_cases h2:judgeW b l w=2
    ·simp[h2];omega
    ·simp[h1,h2]
theorem short_trapOf {b:WBook}(hB:bookB b=true)(hc:CopyB b)(l:List Int):ShortT (trapOf b l):=⟨by have:=hc.trap.opn;show b.trap.opn.length<_;omega,by have:=hc.trap.words;have:=List.length_filter_le (fun w:CWord=> !l.contains w.time) b.trap.words;show(b.trap.words.filter _).length<_;omega,fun x hx=>trapOf_open hB _ x hx⟩
set_option maxHeartbeats 4000000 in
theorem e_Lies_lw(b:WBook)(hB:bookB b=true)(hc:CopyB b)(n:Nat)(hn:n<b.trap.words.length)(G:List Nat)(hG:G.length<1000000)(hG2: ∀g,g∈G→bitsL g∈storiesL b)(s:Stk):
 Run T b29l0 [(1,i64 n),(2, .ptr s.length 32 0),(6, .ptr s.length 368 0),(8,i64 0),(9,i64 0),(32, .sl .no 5 (es (cStory b) G)),(33,i64 G.length),(34,i64 0)] ([(32, .cell (vB b)),(368, .cell (vK b (.sl .no 5 (es (cStory b) G))))]::s)=some (.exit 0,[(1,i64 n),(2, .ptr s.length 32 0),(6, .ptr s.length 368 0),(8,i64 (((G).foldl (fun a g=>cntJ b b.trap.words[n] a (bitsL g)) ((0,0):Nat×Nat)).1:Nat)),(9,i64 (((G).foldl (fun a g=>cntJ b b.trap.words[n] a (bitsL g)) ((0,0):Nat×Nat)).2:Nat)),(32, .sl .no 5 (es (cStory b) G)),(33,i64 G.length),(34,i64 ((G).length:Nat)),(35, .bool false)],[(32, .cell (vB b)),(368, .cell (vK b (.sl .no 5 (es (cStory b) G))))]::s):=by
 have key:=loop_fold (T:=T) (live:=[1,2,6,8,9,32,33,34]) (keep:=[32,352,368]) (b:=d29l0) (G) (fun k a=>a.1≤k∧a.2≤k) (fun a g=>cntJ b b.trap.words[n] a (bitsL g)) (fun k (a:Nat×Nat)=>[(1,i64 n),(2, .ptr s.length 32 0),(6, .ptr s.length 368 0),(8,i64 (a.1:Nat)),(9,i64 (a.2:Nat)),(32, .sl .no 5 (es (cStory b) G)),(33,i64 G.length),(34,i64 (k:Nat))]) (fun k (a:Nat×Nat)=>[(32, .cell (vB b)),(368, .cell (vK b (.sl .no 5 (es (cStory b) G))))]::s) (fun(a:Nat×Nat)=>(.exit 0,[(1,i64 n),(2, .ptr s.length 32 0),(6, .ptr s.length 368 0),(8,i64 (a.1:Nat)),(9,i64 (a.2:Nat)),(32, .sl .no 5 (es (cStory b) G)),(33,i64 G.length),(34,i64 ((G).length:Nat)),(35, .bool false)],[(32, .cell (vB b)),(368, .cell (vK b (.sl .no 5 (es (cStory b) G))))]::s)) (by simp) ?_ ?_ ?_ ((0,0):Nat×Nat) (by simp) [(1,i64 n),(2, .ptr s.length 32 0),(6, .ptr s.length 368 0),(8,i64 0),(9,i64 0),(32, .sl .no 5 (es (cStory b) G)),(33,i64 G.length),(34,i64 0)] ([(32, .cell (vB b)),(368, .cell (vK b (.sl .no 5 (es (cStory b) G))))]::s) (by simp) (by simp)
 ·exact key
 ·intro k a hk hi
  obtain⟨p,q⟩:=a
  dsimp only at hi
  have hk2:(k:Int)<G.length:=by omega
  have hn2:(n:Int)<b.trap.words.length:=by omega
  have hm:=hG2 _ (List.getElem_mem hk)
  have h2:=fun lab s=>e_Judge (trapOf b (bitsL G[k])) (short_trapOf hB hc _) (trapB_less (bookB_trap hB) _) b.trap.words[n] lab s
  rw[judge_story hB hm (List.getElem_mem hn)]at h2
  have hx:cStory b G[k]= .int .u64 (G[k]:Nat)::vT (trapOf b (bitsL G[k])):=rfl
  have w1:IntKind.i64.wrap ((p:Int)+1)=(p:Int)+1:=wi _ (by omega) (by omega)
  have w2:IntKind.i64.wrap ((q:Int)+1)=(q:Int)+1:=wi _ (by omega) (by omega)
  unfold cntJ
  clear hm
  generalize judgeW b (bitsL G[k]) b.trap.words[n]=j at*
  generalize trapOf b (bitsL G[k])=t2 at*
  generalize hy:G[k]=x at*
  generalize hw:b.trap.words[n]=w at*
  obtain⟨w0,w3,w4,w5⟩:=w
  dsimp only at*
  by_cases j1:j=1
  ·subst j1
   simp (maxSteps:=1000000) (disch:=first|omega|assumption|decide +kernel|(simp;done)|(simp;omega)|fail) [run_drawnK,orSlow_none,hk,hk2,hn,hn2,hx,hy,hw,h2,w1,wk k (by omega)]
  ·by_cases j2:j=2
   ·subst j2
    simp (maxSteps:=1000000) (disch:=first|omega|assumption|decide +kernel|(simp;done)|(simp;omega)|fail) [run_drawnK,orSlow_none,hk,hk2,hn,hn2,hx,hy,hw,h2,w2,wk k (by omega)]
   ·simp (maxSteps:=1000000) (disch:=first|omega|assumption|decide +kernel|(simp;done)|(simp;omega)|fail) [run_drawnK,orSlow_none,hk,hk2,hn,hn2,hx,hy,hw,h2,j1,j2,wk k (by omega)]
 ·intro k a hk hi
  obtain⟨p,q⟩:=a
  unfold cntJ
  dsimp only at hi⊢
  split
  ·dsimp only;omega
  ·split<;>dsimp only<;>omega
 ·intro a hi
  simp
set_option maxHeartbeats 4000000 in
theorem e_LiesW(b:WBook)(hc:CopyB b)(n:Int)(lab s):den T 29 [.agg (vB b),i64 n] lab s=some (.tup [i64 (liesV11 b n).1,i64 (liesV11 b n).2],s):=by
 have h1:=hc.trap.words
 have w1:IntKind.i64.wrap ((b.trap.words.length:Int)-1)=(b.trap.words.length:Int)-1:=wi _ (by omega) (by omega)
 unfold liesV11
 by_cases h:open11 b (wiB n 0 ((b.trap.words.length:Int)-1))=0
 ·have h2:=fun(F:Ab.Loc) lab k0=>e_told b hc _ h F s lab k0
  obtain⟨hB,k2,hne⟩:=open11_ok h
  have hT:=(bookB_ok hB).t6
  have hb:=wiB_iff.1 k2
  obtain⟨n,rfl⟩: ∃m:Nat,n=m:=⟨n.toNat,by omega⟩
  have hn:n<b.trap.words.length:=by omega
  have hG:(sortG b).length<1000000:=by rw[sortG_len2];have:=(stories_len hB).1;omega
  have hl:=e_Lies_lw b hB hc n hn (sortG b) hG (fun g hg=>by rw[←sortG_bits hT];exact List.mem_map.2 ⟨g,hg,rfl⟩) s
  rw[←List.foldl_map (f:=bitsL) (g:=cntJ b b.trap.words[n]),sortG_bits hT,cntJ_fold]at hl
  simp only[Nat.zero_add]at hl
  have ew:wordAt b (n:Int)=b.trap.words[n]:=by simp[wordAt,List.getD,hn]
  rw[if_pos h]
  unfold liesV
  rw[ew]
  have a1:((storiesL b).all fun l=>decide (judgeW b l b.trap.words[n]=1))=true↔((storiesL b).countP fun l=>decide (judgeW b l b.trap.words[n]=1))=(sortG b).length:=by rw[sortG_len2,List.countP_eq_length,List.all_eq_true]
  have a2:((storiesL b).all fun l=>decide (judgeW b l b.trap.words[n]=2))=true↔((storiesL b).countP fun l=>decide (judgeW b l b.trap.words[n]=2))=(sortG b).length:=by rw[sortG_len2,List.countP_eq_length,List.all_eq_true]
  rw[k2]at h2
  unfold stG at h2
  generalize ((storiesL b).countP fun l=>decide (judgeW b l b.trap.words[n]=2))=p at*
  generalize ((storiesL b).countP fun l=>decide (judgeW b l b.trap.words[n]=1))=q at*
  generalize ((storiesL b).all fun l=>decide (judgeW b l b.trap.words[n]=2))=p2 at*
  generalize ((storiesL b).all fun l=>decide (judgeW b l b.trap.words[n]=1))=q2 at*
  generalize sortG b=L at*
  by_cases c1:p=L.length
  ·rw[if_pos (a2.2 c1)]
   subst c1
   rw[den_fn t29 _ _ _ rfl]
   simp only[b29]
   simp (maxSteps:=6000000) (disch:=first|omega|assumption|decide +kernel|(simp;done)|(simp;omega)|fail) [run_drawnK,orSlow_none,w1,k2,h2,hl]
  ·have c1': ¬(L.length:Int)=p:=by omega
   rw[if_neg fun e=>c1 (a2.1 e)]
   by_cases c2:q=L.length
   ·rw[if_pos (a1.2 c2)]
    subst c2
    rw[den_fn t29 _ _ _ rfl]
    simp only[b29]
    simp (maxSteps:=6000000) (disch:=first|omega|assumption|decide +kernel|(simp;done)|(simp;omega)|fail) [run_drawnK,orSlow_none,w1,k2,h2,hl,c1']
   ·have c2': ¬(L.length:Int)=q:=by omega
    rw[if_neg fun e=>c2 (a1.1 e)]
    rw[den_fn t29 _ _ _ rfl]
    simp only[b29]
    simp (maxSteps:=6000000) (disch:=first|omega|assumption|decide +kernel|(simp;done)|(simp;omega)|fail) [run_drawnK,orSlow_none,w1,k2,h2,hl,c1',c2']
 ·have h1:=fun lab s=>e_told_no b hc _ h lab s
  rw[if_neg h]
  generalize hw:wiB n 0 ((b.trap.words.length:Int)-1)=w at*
  rw[den_fn t29 _ _ _ rfl]
  simp only[b29]
  simp (maxSteps:=6000000) (disch:=first|omega|assumption|decide +kernel|(simp;done)|(simp;omega)|fail) [run_drawnK,orSlow_none,w1,hw,h1,h]
end Go.Proofs.YthghcainodgnkaaGreat

/-
  Watch: span (not built yet).
-/
namespace Go.Proofs.YthghcainodgnkaaGreat
open Go.Ab
def spnF(fx:Nat→CSp)(G:List Nat)(a:CSp)(k:Nat):CSp:=hullS (if k=0 then fx (G.getD k 0)else a) (fx (G.getD k 0))
theorem spn_fold(f:List Int→CSp)(G:List Nat)(hne:G≠[]):(List.range G.length).foldl (spnF (fun g=>f (bitsL g)) G) ⟨0,0⟩=hullF f (G.map bitsL):=by
 match G,hne with
 |g::G,_=>
   rw[List.length_cons,List.range_succ_eq_map,List.foldl_cons,List.foldl_map]
   have e0:spnF (fun g=>f (bitsL g)) (g::G) ⟨0,0⟩ 0=hullS (f (bitsL g)) (f (bitsL g)):=by simp[spnF]
   rw[e0,List.map_cons]
   show _=(bitsL g::G.map bitsL).foldl (fun a l=>hullS a (f l)) (f (bitsL g))
   rw[List.foldl_cons]
   have key: ∀(L:List Nat) (P:List Nat) (a:CSp),(∀k,k<L.length→(g::G).getD (P.length+1+k) 0=L.getD k 0)→(List.range L.length).foldl (fun x y=>spnF (fun g=>f (bitsL g)) (g::G) x (P.length+(y+1))) a=(L.map bitsL).foldl (fun a l=>hullS a (f l)) a:=by
    intro L
    induction L with
    |nil=>intro P a _;rfl
    |cons x L ih=>
      intro P a h
      have h0:=h 0 (by simp)
      rw[List.length_cons,List.range_succ_eq_map,List.foldl_cons,List.foldl_map,List.map_cons,List.foldl_cons]
      have e1:spnF (fun g=>f (bitsL g)) (g::G) a (P.length+(0+1))=hullS a (f (bitsL x)):=by
       unfold spnF
       rw[if_neg (by omega),show P.length+(0+1)=P.length+1+0 by omega,h0]
       rfl
      rw[e1]
      have:=ih (x::P) (hullS a (f (bitsL x))) (fun k hk=>by
       have:=h (k+1) (by simp;omega)
       rw[List.length_cons,show P.length+1+1+k=P.length+1+(k+1)by omega,this]
       simp)
      rw[←this]
      congr 1
      funext x y
      congr 1
      simp only[List.length_cons,Nat.succ_eq_add_one];omega
   have:=key G [] (hullS (f (bitsL g)) (f (bitsL g))) (fun k hk=>by
    have e:([]:List Nat).length+1+k=k+1:=by simp;omega
    rw[e];simp)
   rw[←this]
   congr 1
   funext x y
   congr 1
   simp
set_option maxHeartbeats 4000000 in
theorem e_span_l(b:WBook)(G:List Nat)(hG:G.length<1000000)(f:Nat)(cap:List V)(fx:Nat→CSp)(ex:Nat→Int)(s:Stk)(hc1:V.stripAll cap=cap)(hc2: ∀keep,V.mapAll (dropR s.length keep) cap=cap)
 (hF: ∀g,g∈G→ ∀(L:Ab.Loc) lab,den T f (.agg (vT (trapOf b (bitsL g)))::cap) lab (L::s)=some (.tup [.agg [i64 (fx g).lo,i64 (fx g).hi],i64 (ex g)],L::s)):
 Run T b100l0 [(1, .fn f [] cap),(4, .ptr s.length 64 0),(5, .ptr s.length 80 0),(13, .sl .no 5 (es (cStory b) G)),(14,i64 G.length),(15,i64 0)] ([(64, .cell [i64 0,i64 0]),(80, .cell [i64 0,i64 0])]::s)=
  some (.exit 0,[(1, .fn f [] cap),(4, .ptr s.length 64 0),(5, .ptr s.length 80 0),(13, .sl .no 5 (es (cStory b) G)),(14,i64 G.length),(15,i64 G.length),(16, .bool false)],[(64, .cell [i64 0,i64 0]),(80, .cell [i64 ((List.range G.length).foldl (spnF fx G) ⟨0,0⟩).lo,i64 ((List.range G.length).foldl (spnF fx G) ⟨0,0⟩).hi])]::s):=by
 have key:=loop_fold (T:=T) (live:=[1,4,5,13,14,15]) (keep:=[64,80]) (b:=d100l0) (List.range G.length) (fun _ _=>True) (spnF fx G)
  (fun k _=>[(1, .fn f [] cap),(4, .ptr s.length 64 0),(5, .ptr s.length 80 0),(13, .sl .no 5 (es (cStory b) G)),(14,i64 G.length),(15,i64 (k:Nat))]) (fun _ a=>[(64, .cell [i64 0,i64 0]),(80, .cell [i64 a.lo,i64 a.hi])]::s)
  (fun a=>(.exit 0,[(1, .fn f [] cap),(4, .ptr s.length 64 0),(5, .ptr s.length 80 0),(13, .sl .no 5 (es (cStory b) G)),(14,i64 G.length),(15,i64 G.length),(16, .bool false)],[(64, .cell [i64 0,i64 0]),(80, .cell [i64 a.lo,i64 a.hi])]::s))
  (by simp) ?_ ?_ ?_ ⟨0,0⟩ trivial [(1, .fn f [] cap),(4, .ptr s.length 64 0),(5, .ptr s.length 80 0),(13, .sl .no 5 (es (cStory b) G)),(14,i64 G.length),(15,i64 0)] ([(64, .cell [i64 0,i64 0]),(80, .cell [i64 0,i64 0])]::s) (by simp[hc2]) (by simp)
 ·exact key
 ·intro k a hk hi
  simp only[List.length_range]at hk
  simp only[List.getElem_range]
  have hk2:(k:Int)<G.length:=by omega
  have eg:G.getD k 0=G[k]:=by simp[List.getD,hk]
  have h1:=hF G[k] (List.getElem_mem hk)
  have hx:cStory b G[k]= .int .u64 (G[k]:Nat)::vT (trapOf b (bitsL G[k])):=rfl
  unfold spnF hullS
  rw[eg]
  generalize fx G[k]=x at*
  generalize ex G[k]=e at*
  generalize trapOf b (bitsL G[k])=t2 at*
  generalize hw:G[k]=w at*
  obtain⟨x1,x2⟩:=x
  obtain⟨a1,a2⟩:=a
  dsimp only at*
  by_cases h0:k=0
  ·subst h0
   simp (maxSteps:=1000000) (disch:=first|omega|assumption|decide +kernel|(simp;done)|(simp;omega)|fail) [hk,hk2,hw,hx,hc1,hc2,h1,wi]
  ·have h0': ¬(k:Int)=0:=by omega
   simp (maxSteps:=1000000) (disch:=first|omega|assumption|decide +kernel|(simp;done)|(simp;omega)|fail) [hk,hk2,hw,hx,hc1,hc2,h1,h0,h0',wk k (by omega)]
 ·intro k a hk hi
  trivial
 ·intro a hi
  simp[hc2]
theorem e_span {b:WBook}(hB:bookB b=true)(hne:storiesL b≠[])(d l f:Nat)(cap:List V)(fl:List Int→CSp)(ex:Nat→Int)(s:Stk)(hd: ¬d=s.length)(h:sget s d l=some (.cell (vK b (stG b))))(hc1:V.stripAll cap=cap)(hc2: ∀keep,V.mapAll (dropR s.length keep) cap=cap)
 (hF: ∀g,bitsL g∈storiesL b→ ∀(L:Ab.Loc) lab,den T f (.agg (vT (trapOf b (bitsL g)))::cap) lab (L::s)=some (.tup [.agg [i64 (fl (bitsL g)).lo,i64 (fl (bitsL g)).hi],i64 (ex g)],L::s)) (lab):
 den T 100 [.ptr d l 0, .fn f [] cap] lab s=some (.agg [i64 (hullF fl (storiesL b)).lo,i64 (hullF fl (storiesL b)).hi],s):=by
 have hT:=(bookB_ok hB).t6
 have hG:(sortG b).length<1000000:=by rw[sortG_len2];have:=(stories_len hB).1;omega
 have hl:=e_span_l b (sortG b) hG f cap (fun g=>fl (bitsL g)) ex s hc1 hc2 (fun g hg=>hF g (by rw[←sortG_bits hT];exact List.mem_map.2 ⟨g,hg,rfl⟩))
 rw[spn_fold fl (sortG b) (fun e=>hne ((sortG_nil2 b).1 e)),sortG_bits hT]at hl
 unfold stG at h
 generalize hullF fl (storiesL b)=r at*
 generalize sortG b=G at*
 rw[den_fn t100 _ _ _ rfl]
 simp only[b100]
 simp (maxSteps:=1000000) (disch:=first|omega|assumption|decide +kernel|(simp;done)|(simp;omega)|fail) [hd,h,hl]
end Go.Proofs.YthghcainodgnkaaGreat

/-
  Watch: Fish, Came (not built yet).
-/
namespace Go.Proofs.YthghcainodgnkaaGreat
open Go.Ab
theorem e_Fish1(t:CTrap)(hs:ShortT t)(hB:trapB t=true)(i c:Int)(d l1 l2:Nat)(S:Stk)(h1:sget S d l1=some (.cell [i64 i]))(h2:sget S d l2=some (.cell [i64 c]))(hd: ¬d=S.length)(lab):
 den T 101 [.agg (vT t), .ptr d l1 0, .ptr d l2 0] lab S=some (.tup [.agg [i64 (fishC t i c).1.lo,i64 (fishC t i c).1.hi],i64 (fishC t i c).2],S):=by
 have h3:=fun lab s=>e_Fish t hs hB i c lab s
 generalize fishC t i c=r at*
 rw[den_fn t101 _ _ _ rfl]
 simp only[b101]
 simp (maxSteps:=1000000) (disch:=first|omega|assumption|decide +kernel|(simp;done)|(simp;omega)|fail) [hd,h1,h2,h3]
theorem e_Came1(t:CTrap)(hs:ShortT t)(hB:trapB t=true)(i c:Int)(d l1 l2:Nat)(S:Stk)(h1:sget S d l1=some (.cell [i64 i]))(h2:sget S d l2=some (.cell [i64 c]))(hd: ¬d=S.length)(lab):
 den T 106 [.agg (vT t), .ptr d l1 0, .ptr d l2 0] lab S=some (.tup [.agg [i64 (cameC t i c).1.lo,i64 (cameC t i c).1.hi],i64 (cameC t i c).2],S):=by
 have h3:=fun lab s=>e_Came t hs hB i c lab s
 generalize cameC t i c=r at*
 rw[den_fn t106 _ _ _ rfl]
 simp only[b106]
 simp (maxSteps:=1000000) (disch:=first|omega|assumption|decide +kernel|(simp;done)|(simp;omega)|fail) [hd,h1,h2,h3]
set_option maxHeartbeats 4000000 in
theorem e_FishW(b:WBook)(hc:CopyB b)(hm:Mid b.trap)(i c:Int)(lab s):den T 48 [.agg (vB b),i64 i,i64 c] lab s=some (.tup [.agg [i64 (fishV11 b i c).1.lo,i64 (fishV11 b i c).1.hi],i64 (fishV11 b i c).2],s):=by
 have h0:=fun lab s=>e_isTimeW b hm i lab s
 have w1:IntKind.i64.wrap (b.trap.chambers-1)=b.trap.chambers-1:=by obtain⟨⟨_,_⟩,_⟩:=hm;exact wi _ (by omega) (by omega)
 unfold fishV11
 by_cases h:open11 b (placeB b.trap i c)=0
 ·have h2:=fun(F:Ab.Loc) lab k0=>e_told b hc _ h F s lab k0
  obtain⟨hB,k2,hne⟩:=open11_ok h
  rw[k2]at h2
  have k3:=k2
  simp only[placeB,Bool.and_eq_true]at k2
  obtain⟨c1,c2⟩:=k2
  have hf: ∀g,bitsL g∈storiesL b→fishC (trapOf b (bitsL g)) i c=(difR (trapOf b (bitsL g)) i.toNat c.toNat i.toNat (c.toNat+1),0):=fun g hg=>by
   have ho:openT (trapOf b (bitsL g)) (placeB (trapOf b (bitsL g)) i c)=0:=by
    rw[openT_of (trapB_less (bookB_trap hB) _),show placeB (trapOf b (bitsL g)) i c=placeB b.trap i c from rfl,k3,story_one hg];rfl
   unfold fishC
   rw[if_pos ho]
  have h3:=fun(F:Ab.Loc) (hF:F.get 368=some (.cell (vK b (stG b)))) (hF1:F.get 64=some (.cell [i64 i])) (hF2:F.get 80=some (.cell [i64 c])) lab=>
   e_span hB hne s.length 368 101 [.ptr s.length 64 0, .ptr s.length 80 0] (fun l=>difR (trapOf b l) i.toNat c.toNat i.toNat (c.toNat+1)) (fun _=>0) (F::s) (by simp) (by simp[hF]) (by simp) (by intro keep;simp)
    (fun g hg L lab=>by
      have:=e_Fish1 (trapOf b (bitsL g)) (short_trapOf hB hc _) (trapB_less (bookB_trap hB) _) i c s.length 64 80 (L::F::s) (by simp[hF1]) (by simp[hF2]) (by simp;omega) lab
      rw[hf g hg]at this
      exact this) lab
  rw[show hullF (fun l=>difR (trapOf b l) i.toNat c.toNat i.toNat (c.toNat+1)) (storiesL b)=spanW b i.toNat c.toNat i.toNat (c.toNat+1)from rfl]at h3
  rw[if_pos h]
  clear hf
  unfold stG at h2 h3
  generalize spanW b i.toNat c.toNat i.toNat (c.toNat+1)=r at*
  generalize sortG b=G at*
  rw[den_fn t48 _ _ _ rfl]
  simp only[b48]
  simp (maxSteps:=6000000) (disch:=first|omega|assumption|decide +kernel|(simp;done)|(simp;omega)|fail) [run_drawnK,orSlow_none,h0,w1,c1,c2,h2,h3]
 ·have h1:=fun lab s=>e_told_no b hc _ h lab s
  rw[if_neg h]
  cases c1:wiB i 0 (b.trap.times-1)
  ·have e:placeB b.trap i c=false:=by unfold placeB;rw[c1];rfl
   rw[e]at h1 h⊢
   rw[den_fn t48 _ _ _ rfl]
   simp only[b48]
   simp (maxSteps:=6000000) (disch:=first|omega|assumption|decide +kernel|(simp;done)|(simp;omega)|fail) [run_drawnK,orSlow_none,h0,h1,h,c1]
  ·have e:placeB b.trap i c=wiB c 0 (b.trap.chambers-1):=by unfold placeB;rw[c1];rfl
   rw[e]at h1 h⊢
   generalize hw:wiB c 0 (b.trap.chambers-1)=w at*
   rw[den_fn t48 _ _ _ rfl]
   simp only[b48]
   simp (maxSteps:=6000000) (disch:=first|omega|assumption|decide +kernel|(simp;done)|(simp;omega)|fail) [run_drawnK,orSlow_none,h0,w1,hw,h1,h,c1]
end Go.Proofs.YthghcainodgnkaaGreat

/-
  Watch: Came (not built yet).
-/
namespace Go.Proofs.YthghcainodgnkaaGreat
open Go.Ab
set_option maxHeartbeats 4000000 in
theorem e_CameW(b:WBook)(hc:CopyB b)(hm:Mid b.trap)(i j:Int)(lab s):den T 53 [.agg (vB b),i64 i,i64 j] lab s=some (.tup [.agg [i64 (cameV11 b i j).1.lo,i64 (cameV11 b i j).1.hi],i64 (cameV11 b i j).2],s):=by
 have h0:=fun n lab s=>e_isTimeW b hm n lab s
 unfold cameV11
 by_cases h:open11 b (spanIs b i j)=0
 ·have h2:=fun(F:Ab.Loc) lab k0=>e_told b hc _ h F s lab k0
  obtain⟨hB,k2,hne⟩:=open11_ok h
  rw[k2]at h2
  simp only[spanIs,Bool.and_eq_true,decide_eq_true_eq]at k2
  obtain⟨c1,c2,c3⟩:=k2
  have b1:=wiB_iff.1 c1
  have b2:=wiB_iff.1 c2
  obtain⟨i,rfl⟩: ∃m:Nat,i=m:=⟨i.toNat,by omega⟩
  obtain⟨j,rfl⟩: ∃m:Nat,j=m:=⟨j.toNat,by omega⟩
  have hf: ∀g,bitsL g∈storiesL b→cameC (trapOf b (bitsL g)) i j=(difR (trapOf b (bitsL g)) j 0 i 0,0):=fun g hg=>came_story hB hg (by omega) (by omega)
  have h3:=fun(F:Ab.Loc) (hF:F.get 400=some (.cell (vK b (stG b)))) (hF1:F.get 64=some (.cell [i64 (i:Int)])) (hF2:F.get 80=some (.cell [i64 (j:Int)])) lab=>
   e_span hB hne s.length 400 106 [.ptr s.length 64 0, .ptr s.length 80 0] (fun l=>difR (trapOf b l) j 0 i 0) (fun _=>0) (F::s) (by simp) (by simp[hF]) (by simp) (by intro keep;simp)
    (fun g hg L lab=>by
      have:=e_Came1 (trapOf b (bitsL g)) (short_trapOf hB hc _) (trapB_less (bookB_trap hB) _) i j s.length 64 80 (L::F::s) (by simp[hF1]) (by simp[hF2]) (by simp;omega) lab
      rw[hf g hg]at this
      exact this) lab
  rw[show hullF (fun l=>difR (trapOf b l) j 0 i 0) (storiesL b)=spanW b j 0 i 0 from rfl]at h3
  rw[if_pos h]
  simp only[Int.toNat_natCast]
  clear hf
  unfold stG at h2 h3
  generalize spanW b j 0 i 0=r at*
  generalize sortG b=G at*
  have c4:i≤j:=by omega
  rw[den_fn t53 _ _ _ rfl]
  simp only[b53]
  simp (maxSteps:=6000000) (disch:=first|omega|assumption|decide +kernel|(simp;done)|(simp;omega)|fail) [run_drawnK,orSlow_none,h0,c1,c2,c3,c4,h2,h3]
 ·have h1:=fun lab s=>e_told_no b hc _ h lab s
  rw[if_neg h]
  cases c1:wiB i 0 (b.trap.times-1)
  ·have e:spanIs b i j=false:=by unfold spanIs;rw[c1];rfl
   rw[e]at h1 h⊢
   rw[den_fn t53 _ _ _ rfl]
   simp only[b53]
   simp (maxSteps:=6000000) (disch:=first|omega|assumption|decide +kernel|(simp;done)|(simp;omega)|fail) [run_drawnK,orSlow_none,h0,h1,h,c1]
  ·cases c2:wiB j 0 (b.trap.times-1)
   ·have e:spanIs b i j=false:=by unfold spanIs;rw[c1,c2];rfl
    rw[e]at h1 h⊢
    rw[den_fn t53 _ _ _ rfl]
    simp only[b53]
    simp (maxSteps:=6000000) (disch:=first|omega|assumption|decide +kernel|(simp;done)|(simp;omega)|fail) [run_drawnK,orSlow_none,h0,h1,h,c1,c2]
   ·have e:spanIs b i j=decide (i≤j):=by unfold spanIs;rw[c1,c2];rfl
    rw[e]at h1 h⊢
    by_cases c3:i≤j
    ·simp only[c3,decide_true]at h1 h⊢
     rw[den_fn t53 _ _ _ rfl]
     simp only[b53]
     simp (maxSteps:=6000000) (disch:=first|omega|assumption|decide +kernel|(simp;done)|(simp;omega)|fail) [run_drawnK,orSlow_none,h0,h1,h,c1,c2,c3]
    ·simp only[c3,decide_false]at h1 h⊢
     rw[den_fn t53 _ _ _ rfl]
     simp only[b53]
     simp (maxSteps:=6000000) (disch:=first|omega|assumption|decide +kernel|(simp;done)|(simp;omega)|fail) [run_drawnK,orSlow_none,h0,h1,h,c1,c2,c3]
end Go.Proofs.YthghcainodgnkaaGreat

/-
  Watch: fewest, no word more (not built yet).
-/
namespace Go.Proofs.YthghcainodgnkaaGreat
open Go.Ab
theorem range5 {T:Nat}(hT:T<6) {p q:Nat→Bool}(h1: ∀n,T≤n→n<5→p n=false)(h2: ∀n,n<T→p n=q n):(List.range 5).filter p=(List.range T).filter q:=by
 have e5:List.range 5=List.range T ++(List.range (5-T)).map (T+ ·):=by
  rw[←List.range_add,show T+(5-T)=5 by omega]
 rw[e5,List.filter_append]
 have e0:((List.range (5-T)).map (T+ ·)).filter p=[]:=by
  rw[List.filter_eq_nil_iff]
  intro n hn hc
  obtain⟨k,hk,rfl⟩:=List.mem_map.1 hn
  have hk:=List.mem_range.1 hk
  rw[h1 _ (by omega) (by omega)]at hc
  cases hc
 rw[e0,List.append_nil]
 exact List.filter_congr fun n hn=>h2 n (List.mem_range.1 hn)
theorem orBit_test(n:Nat): ∀(l:List Int) (g:Nat),(l.foldl orBit g).testBit n=(g.testBit n||l.any fun x=>decide (x.toNat=n))
 |[],g=>by simp
 |x::l,g=>by
   rw[List.foldl_cons,orBit_test n l,List.any_cons,←Bool.or_assoc]
   congr 1
   unfold orBit
   rw[Nat.testBit_or,Nat.shiftLeft_eq,Nat.one_mul,Nat.testBit_two_pow]
def orW(b:WBook)(g:Nat)(n:Int):Nat:=orBit g (wordAt b n).time
theorem orW_times {b:WBook}(hB:bookB b=true) {l:List Int}(hl: ∀w,w∈l→0≤w∧w<(b.trap.words.length:Int)):bitsL (l.foldl (orW b) 0)=timesOf b l:=by
 have hok:=bookB_ok hB
 have hT:=hok.t6
 have e:l.foldl (orW b) 0=(l.map fun w=>(wordAt b w).time).foldl orBit 0:=by rw[List.foldl_map];rfl
 have ht: ∀w,w∈l→0≤(wordAt b w).time∧(wordAt b w).time<b.T:=fun w hw=>by
  have h1:=hl w hw
  obtain⟨n,rfl⟩: ∃n:Nat,w=n:=⟨w.toNat,by omega⟩
  have h2:=wordOk_iff.1 (hok.trap.word _ (wordAt_mem (b:=b) (n:=n) (by omega)))
  have:b.T=b.trap.times.toNat:=rfl
  omega
 unfold bitsL timesOf
 congr 1
 refine range5 hT (fun n h1 h2=> ?_) (fun n hn=> ?_)
 ·rw[e,orBit_test,Nat.zero_testBit,Bool.false_or]
  rw[List.any_eq_false]
  intro x hx hc
  obtain⟨w,hw,rfl⟩:=List.mem_map.1 hx
  have:=ht w hw
  simp only[decide_eq_true_eq]at hc
  omega
 ·rw[e,orBit_test,Nat.zero_testBit,Bool.false_or,List.any_map]
  rw[Bool.eq_iff_iff,List.any_eq_true,List.any_eq_true]
  constructor
  ·rintro⟨w,hw,h⟩
   have:=ht w hw
   simp only[Function.comp,decide_eq_true_eq]at h⊢
   exact⟨w,hw,by omega⟩
  ·rintro⟨w,hw,h⟩
   have:=ht w hw
   simp only[Function.comp,decide_eq_true_eq]at h⊢
   exact⟨w,hw,by omega⟩
theorem orW_lt {b:WBook}(hB:bookB b=true): ∀(l:List Int) (g:Nat),g<32→(∀w,w∈l→0≤w∧w<(b.trap.words.length:Int))→l.foldl (orW b) g<32
 |[],g,h,_=>h
 |w::l,g,h,hl=>by
   rw[List.foldl_cons]
   refine orW_lt hB l _ ?_ fun x hx=>hl x (List.mem_cons_of_mem _ hx)
   have h1:=hl w (List.mem_cons_self ..)
   have hok:=bookB_ok hB
   obtain⟨n,rfl⟩: ∃n:Nat,w=n:=⟨w.toNat,by omega⟩
   have h2:=wordOk_iff.1 (hok.trap.word _ (wordAt_mem (b:=b) (n:=n) (by omega)))
   have:=hok.trap.tt
   exact or_lt g h _ (by omega)
theorem find_false {b:WBook}(hB:bookB b=true) {l:List Int}(hl: ∀w,w∈l→0≤w∧w<(b.trap.words.length:Int)):(canG b (l.foldl (orW b) 0)&&isOneB (dropW b.trap l))=falseB b l:=by
 have hok:=bookB_ok hB
 rw[canG_eq hok.run.1 (allL_up hok.t6 hok.sober) (orW_lt hB l 0 (by decide) hl),orW_times hB hl]
 rfl
theorem e_few11(l:List Int)(hl:l.length<1000000)(k:Nat)(d a:Nat)(S:Stk)(h:sget S d a=some (.cell [.sl .no 1 (es cInt l)]))(hd: ¬d=S.length)(lab):
 den T 124 [i64 k, .ptr d a 0] lab S=some (.bool (l.contains (k:Int)),S):=by
 have h1:=fun s lab=>e_Contains l (k:Int) s (by omega) lab
 simp only[in_contains]at h1
 generalize l.contains (k:Int)=c at*
 rw[den_fn t124 _ _ _ rfl]
 simp only[b124]
 simp (maxSteps:=1000000) (disch:=first|omega|assumption|decide +kernel|(simp;done)|(simp;omega)|fail) [hd,h,h1,-e_Contains]
set_option maxHeartbeats 2000000 in
theorem e_find_l0(b:WBook)(hB:bookB b=true)(st:V)(f:List Int)(hf:f.length<1000000)(hin: ∀w,w∈f→0≤w∧w<(b.trap.words.length:Int))(D d l:Nat)(s:Stk)(hs1:sget s D 16=some (.cell [.ptr d l 0]))(hs2:sget s d l=some (.cell (vK b st)))(hD: ¬D=s.length)(hd: ¬d=s.length):
 Run T b120l0 [(3, .ptr D 16 0),(6, .ptr s.length 96 0),(11, .int .u64 0),(19, .sl .no 1 (es cInt f)),(20,i64 f.length),(21,i64 0)] ([(96, .cell [.sl .no 1 (es cInt f)])]::s)=some (.exit 0,[(3, .ptr D 16 0),(6, .ptr s.length 96 0),(11, .int .u64 (((f).foldl (orW b) 0):Nat)),(19, .sl .no 1 (es cInt f)),(20,i64 f.length),(21,i64 ((f).length:Nat)),(22, .bool false)],[(96, .cell [.sl .no 1 (es cInt f)])]::s):=by
 have key:=loop_fold (T:=T) (live:=[3,6,11,19,20,21]) (keep:=[96,672,736,752,1056,1072,1152]) (b:=d120l0) (f) (fun _ g=>g<32) (orW b) (fun k (a:Nat)=>[(3, .ptr D 16 0),(6, .ptr s.length 96 0),(11, .int .u64 (a:Nat)),(19, .sl .no 1 (es cInt f)),(20,i64 f.length),(21,i64 (k:Nat))]) (fun k (a:Nat)=>[(96, .cell [.sl .no 1 (es cInt f)])]::s) (fun(a:Nat)=>(.exit 0,[(3, .ptr D 16 0),(6, .ptr s.length 96 0),(11, .int .u64 (a:Nat)),(19, .sl .no 1 (es cInt f)),(20,i64 f.length),(21,i64 ((f).length:Nat)),(22, .bool false)],[(96, .cell [.sl .no 1 (es cInt f)])]::s)) (by simp) ?_ ?_ ?_ 0 (by simp) [(3, .ptr D 16 0),(6, .ptr s.length 96 0),(11, .int .u64 0),(19, .sl .no 1 (es cInt f)),(20,i64 f.length),(21,i64 0)] ([(96, .cell [.sl .no 1 (es cInt f)])]::s) (by simp[hD,hd]) (by simp[hD,hd])
 ·exact key
 ·intro k a hk hi
  have hk2:(k:Int)<f.length:=by omega
  have h1:=hin _ (List.getElem_mem hk)
  have hok:=bookB_ok hB
  have htt:=hok.trap.tt
  generalize hx:f[k]=x at*
  obtain⟨n,rfl⟩: ∃n:Nat,x=n:=⟨x.toNat,by omega⟩
  have hn:n<b.trap.words.length:=by omega
  have h2:=wordOk_iff.1 (hok.trap.word _ (List.getElem_mem hn))
  have ew:wordAt b n=b.trap.words[n]:=by simp[wordAt,List.getD,hn]
  unfold orW orBit
  rw[ew]
  clear ew htt
  generalize hw:b.trap.words[n]=w at*
  obtain⟨w0,w1,w2,w3⟩:=w
  dsimp only at*
  obtain⟨m,rfl⟩: ∃m:Nat,w0=m:=⟨w0.toNat,by omega⟩
  have hm5:m<5:=by have:=hok.trap.tt;omega
  have hm: ¬(m:Int)<0:=by omega
  simp only[Int.toNat_natCast]
  simp (maxSteps:=1000000) (disch:=first|omega|assumption|decide +kernel|(simp;done)|(simp;omega)|fail) [hD,hd,hs1,hs2,hk,hk2,hx,hn,h1.2,hw,hm,or_word a hi m hm5,wk k (by omega)]
 ·intro k a hk hi
  have h1:=hin _ (List.getElem_mem hk)
  exact orW_lt hB [f[k]] a hi (fun w hw=>by rw[List.mem_singleton]at hw;subst hw;exact h1)
 ·intro a hi
  simp[hD,hd]
end Go.Proofs.YthghcainodgnkaaGreat

/-
  Watch: fewest, the search (not built yet).
-/
namespace Go.Proofs.YthghcainodgnkaaGreat
open Go.Ab
abbrev capF(D:Nat):List V:=[.ptr D 16 0, .ptr D 48 0, .ptr D 64 0]
structure FindS(b:WBook)(st:V)(D d l:Nat)(s:Stk):Prop where
 bk:sget s D 16=some (.cell [.ptr d l 0])
 al:sget s D 48=some (.cell [i64 b.trap.words.length])
 fn:sget s D 64=some (.cell [.fn 120 [] (capF D)])
 book:sget s d l=some (.cell (vK b st))
 D:D<s.length
 d:d<s.length
theorem FindS.up {b st D d l s}(h:FindS b st D d l s)(F:Ab.Loc):FindS b st D d l (F::s):=by
 have h1:=h.D
 have h2:=h.d
 have n1: ¬D=s.length:=by omega
 have n2: ¬d=s.length:=by omega
 exact⟨by simp[n1,h.bk],by simp[n1,h.al],by simp[n1,h.fn],by simp[n2,h.book],by simp;omega,by simp;omega⟩
def findQ(b:WBook)(m:Nat)(f:List Int):List Int×Bool:=match (listsP m f b.trap.words.length).find? (falseB b)with
 |some x=>(x,true)
 |none=>(if m=0 then f else [],false)
theorem findQ_0(b:WBook)(f:List Int):findQ b 0 f=(f,falseB b f):=by
 unfold findQ
 rw[listsP,List.find?_cons]
 cases h:falseB b f<;>simp
set_option maxHeartbeats 4000000 in
theorem e_find_0(b:WBook)(hB:bookB b=true)(hc:CopyB b)(st:V)(D d l:Nat)(f:List Int)(hf:f.length<1000000)(hin: ∀w,w∈f→0≤w∧w<(b.trap.words.length:Int))(n:Int)(s:Stk)(h:FindS b st D d l s)(lab):
 den T 120 [.sl .no 1 (es cInt f),i64 n,i64 0, .ptr D 16 0, .ptr D 48 0, .ptr D 64 0] lab s=some (.tup [.sl .no 1 (es cInt f), .bool (falseB b f)],s):=by
 have n1: ¬D=s.length:=by have:=h.D;omega
 have n2: ¬d=s.length:=by have:=h.d;omega
 have q1:=h.bk
 have q2:=h.book
 have hok:=bookB_ok hB
 have ht:=bookB_trap hB
 have hl:=e_find_l0 b hB st f hf hin D d l s q1 q2 n1 n2
 have hlt:=orW_lt hB f 0 (by decide) hin
 have hs5:=allL_up hok.t6 hok.sober
 have h1:=fun(F:Ab.Loc) lab=>e_canBe b st _ hlt hs5 d l (F::s) (by simp;have:=h.d;omega) (by simp[n2,q2]) lab
 have h2:=fun(F:Ab.Loc) (hF:F.get 96=some (.cell [.sl .no 1 (es cInt f)])) lab=>
  e_without b hc.trap.words st d l 124 [.ptr s.length 96 0] (fun j=>f.contains (j:Int)) (F::s) (by simp;have:=h.d;omega) (by simp[n2,q2]) (by simp) (by intro keep;simp)
   (fun j hj L lab=>e_few11 f hf j s.length 96 (L::F::s) (by simp[hF]) (by simp;omega) lab) lab
 rw[keepW_drop b.trap f]at h2
 have hl2:(dropW b.trap f).words.length≤b.trap.words.length:=by
  unfold dropW
  dsimp only
  rw[List.length_map]
  have:=List.length_filter_le (fun x:CWord×Nat=> !f.contains (x.2:Int)) b.trap.words.zipIdx
  simpa using this
 have hsh:ShortT (dropW b.trap f):=⟨by have:=hc.trap.opn;show b.trap.opn.length<_;omega,by have:=hc.trap.words;omega,fun x hx=>trapB_open ht x hx⟩
 have hdB:trapB (dropW b.trap f)=true:=by
  have hm: ∀w,w∈(dropW b.trap f).words→w∈b.trap.words:=(dropW_less b.trap f).words
  simp only[trapB,Bool.and_eq_true,decide_eq_true_eq,allB,List.all_eq_true]at ht⊢
  refine⟨ht.1,ht.2.1,ht.2.2.1,by omega,ht.2.2.2.2.1,fun w hw=>ht.2.2.2.2.2 w (hm w hw)⟩
 have h3:=fun lab s=>e_hasTruth (dropW b.trap f) hsh lab s
 rw[oneT_truth hdB]at h3
 rw[←find_false hB hin]
 clear hdB hsh hl2 hlt
 generalize isOneB (dropW b.trap f)=o at*
 generalize dropW b.trap f=t2 at*
 generalize f.foldl (orW b) 0=g at*
 generalize canG b g=c at*
 rw[den_fn t120 _ _ _ rfl]
 simp only[b120]
 cases c
 ·simp (maxSteps:=6000000) (disch:=first|omega|assumption|decide +kernel|(simp;done)|(simp;omega)|fail) [run_drawnK,orSlow_none,n1,n2,q1,q2,hl,h1]
 ·simp (maxSteps:=6000000) (disch:=first|omega|assumption|decide +kernel|(simp;done)|(simp;omega)|fail) [run_drawnK,orSlow_none,n1,n2,q1,q2,hl,h1,h2,h3]
end Go.Proofs.YthghcainodgnkaaGreat

/-
  Watch: fewest, the search with words more (not built yet).
-/
namespace Go.Proofs.YthghcainodgnkaaGreat
open Go.Ab
theorem lists_none {m:Nat}(hm:0<m) {f:List Int} {b:Nat}(h:b<fromOf f+m):listsP m f b=[]:=by
 refine List.eq_nil_iff_forall_not_mem.2 fun x hx=> ?_
 obtain⟨g,_,h1,h2,h3⟩:=(lists_mem m f b x).1 hx
 have:=pair_lenL h2 h3
 omega
theorem lists_cut(m:Nat)(f:List Int)(b:Nat):listsP (m+1) f b=(List.range' (fromOf f) (b-m-fromOf f)).flatMap fun(n:Nat)=>listsP m (f ++[(n:Int)]) b:=by
 rw[listsP]
 by_cases h0:m=0
 ·subst h0;rfl
 ·have e:b-fromOf f=(b-m-fromOf f)+(b-fromOf f-(b-m-fromOf f)):=by omega
  rw[e,←List.range'_append_1,List.flatMap_append]
  have:(List.range' (fromOf f+(b-m-fromOf f)) (b-fromOf f-(b-m-fromOf f))).flatMap (fun(n:Nat)=>listsP m (f ++[(n:Int)]) b)=[]:=by
   refine flat_nil fun n hn=>lists_none (by omega) ?_
   rw[fromOf_snoc]
   have:=List.mem_range'.1 hn
   omega
  rw[this,List.append_nil]
def fndF(f:List Int):Ab.Loc:=[(96, .cell [.sl .no 1 (es cInt f)])]
def fndQ(f:List Int)(s:Stk)(x:List Int):Ex×Env×Stk:=(.ret,[(9, .sl .no 1 (es cInt x)),(10, .bool true)],[(96, .cell [.sl .no 1 (es cInt f)]),(1072, .tok (f.length+1))]::s)
def FindOk(b:WBook)(st:V)(D d l m:Nat):Prop:= ∀f:List Int,f.length+m≤8→(∀w,w∈f→0≤w∧w<(b.trap.words.length:Int))→ ∀s,FindS b st D d l s→ ∀lab,
 den T 120 [.sl .no 1 (es cInt f),i64 (fromOf f:Nat),i64 (m:Nat), .ptr D 16 0, .ptr D 48 0, .ptr D 64 0] lab s=some (.tup [.sl .no 1 (es cInt (findQ b m f).1), .bool (findQ b m f).2],s)
set_option maxHeartbeats 4000000 in
theorem e_find_l1(b:WBook)(hw8:b.trap.words.length≤8)(st:V)(D d l m:Nat)(ih:FindOk b st D d l m)(f:List Int)(hf:f.length+(m+1)≤8)(hin: ∀w,w∈f→0≤w∧w<(b.trap.words.length:Int))(s:Stk)(h:FindS b st D d l s):
 Run T b120l1 [(2,i64 ((m+1:Nat):Int)),(4, .ptr D 48 0),(5, .ptr D 64 0),(6, .ptr s.length 96 0),(14,i64 (fromOf f:Nat))] (fndF f::s)=
  some (optQ (fndQ f s) (.exit 2,[(2,i64 ((m+1:Nat):Int)),(4, .ptr D 48 0),(5, .ptr D 64 0),(6, .ptr s.length 96 0),(14,i64 ((fromOf f+(b.trap.words.length-m-fromOf f):Nat):Int)),(54, .bool false)],fndF f::s) ((listsP (m+1) f b.trap.words.length).find? (falseB b))):=by
 have n1: ¬D=s.length:=by have:=h.D;omega
 have q1:=h.al
 have q2:=h.fn
 rw[lists_cut,←foldS_flat]
 have hN:(List.range' (fromOf f) (b.trap.words.length-m-fromOf f)).length=b.trap.words.length-m-fromOf f:=List.length_range' ..
 have hfr:fromOf f≤8:=by
  unfold fromOf
  cases hg:f.getLast? with
  |none=>simp
  |some x=>have:=hin x (List.mem_of_getLast? hg);dsimp only;omega
 refine(loop_list0 (T:=T) (b:=d120l1) (List.range' (fromOf f) (b.trap.words.length-m-fromOf f)) (fun k (_:Unit)=>[(2,i64 ((m+1:Nat):Int)),(4, .ptr D 48 0),(5, .ptr D 64 0),(6, .ptr s.length 96 0),(14,i64 ((fromOf f+k:Nat):Int))]) (fun _ _=>fndF f::s)
  (findL (fun(n:Nat)=>listsP m (f ++[(n:Int)]) b.trap.words.length) (falseB b) (fndQ f s)) (fun _=>(.exit 2,[(2,i64 ((m+1:Nat):Int)),(4, .ptr D 48 0),(5, .ptr D 64 0),(6, .ptr s.length 96 0),(14,i64 ((fromOf f+(b.trap.words.length-m-fromOf f):Nat):Int)),(54, .bool false)],fndF f::s)) ?_ ?_ ?_ (by simp) () _ _ (by simp[n1]) (by simp[fndF]))
 ·intro k a hk
  rw[hN]at hk
  rw[List.getElem_range',Nat.one_mul]
  have e1:fromOf f+(k+1)=fromOf f+k+1:=by omega
  rw[e1]
  have hn9:fromOf f+k<1000:=by omega
  have hle:fromOf f+k+(m+1)≤b.trap.words.length:=by omega
  generalize fromOf f+k=n at*
  have hlt:n<b.trap.words.length:=by omega
  have ih:=fun(F:Ab.Loc) lab=>ih (f ++[(n:Int)]) (by simp;omega) (fun w hw=>by
   rcases List.mem_append.1 hw with hw|hw
   ·exact hin w hw
   ·rw[List.mem_singleton]at hw;subst hw;omega) (F::s) (h.up F) lab
  rw[fromOf_snoc]at ih
  have e0:es cInt f ++[[i64 (n:Nat)]]=es cInt (f ++[(n:Int)]):=by simp[es]
  have w1:IntKind.i64.wrap ((n:Int)+((m+1:Nat):Int))=(n:Int)+((m+1:Nat):Int):=wi _ (by omega) (by omega)
  have w2:IntKind.i64.wrap ((n:Int)+1)=((n+1:Nat):Int):=wi _ (by omega) (by omega)
  have w3:IntKind.i64.wrap (((m+1:Nat):Int)-1)=(m:Int):=by rw[wi _ (by omega) (by omega)];omega
  have hle2:(n:Int)+((m+1:Nat):Int)≤b.trap.words.length:=by omega
  have q3:(f.length+1)*8≤140737488355328:=by omega
  have q4:f.length+1<140737488355328:=by omega
  dsimp only[findL]
  unfold findQ at ih
  clear hN hfr hk
  generalize ((m+1:Nat):Int)=M at*
  generalize ((n+1:Nat):Int)=n2 at*
  cases hq:(listsP m (f ++[(n:Int)]) b.trap.words.length).find? (falseB b)with
  |some x=>
    rw[hq]at ih
    simp only[optQ,fndQ,fndF]at ih⊢
    simp (maxSteps:=6000000) (disch:=first|omega|assumption|decide +kernel|(simp;done)|(simp;omega)|fail) [run_drawnK,orSlow_none,appD_full,n1,q1,q2,q3,q4,w1,w2,w3,hle2,e0,ih]
  |none=>
    rw[hq]at ih
    simp only[optQ,fndF]at ih⊢
    simp (maxSteps:=6000000) (disch:=first|omega|assumption|decide +kernel|(simp;done)|(simp;omega)|fail) [run_drawnK,orSlow_none,appD_full,n1,q1,q2,q3,q4,w1,w2,w3,hle2,e0,ih]
 ·intro a x q h
  unfold findL at h
  cases hf:List.find? (falseB b) (listsP m (f ++[(x:Int)]) b.trap.words.length)with
  |some y=>rw[hf]at h;simp only[optQ,Sum.inr.injEq]at h;rw[←h];simp[fndQ]
  |none=>rw[hf]at h;simp[optQ]at h
 ·intro a
  rw[hN]
  have hgt: ¬((fromOf f+(b.trap.words.length-m-fromOf f):Nat):Int)+((m+1:Nat):Int)≤b.trap.words.length:=by omega
  have w1:IntKind.i64.wrap (((fromOf f+(b.trap.words.length-m-fromOf f):Nat):Int)+((m+1:Nat):Int))=((fromOf f+(b.trap.words.length-m-fromOf f):Nat):Int)+((m+1:Nat):Int):=wi _ (by omega) (by omega)
  generalize ((fromOf f+(b.trap.words.length-m-fromOf f):Nat):Int)=N at*
  generalize ((m+1:Nat):Int)=M at*
  simp (maxSteps:=6000000) (disch:=first|omega|assumption|decide +kernel|(simp;done)|(simp;omega)|fail) [fndF,n1,q1,w1,hgt]
end Go.Proofs.YthghcainodgnkaaGreat

/-
  Watch: fewest, Blame, False (not built yet).
-/
namespace Go.Proofs.YthghcainodgnkaaGreat
open Go.Ab
set_option maxHeartbeats 4000000 in
theorem e_find_ok(b:WBook)(hB:bookB b=true)(hc:CopyB b)(st:V)(D d l:Nat): ∀m,FindOk b st D d l m
 |0=>fun f hf hin s h lab=>by
   rw[findQ_0]
   exact e_find_0 b hB hc st D d l f (by omega) hin (fromOf f:Nat) s h lab
 |m+1=>fun f hf hin s h lab=>by
   have hw8:b.trap.words.length≤8:=by
    have:=bookB_trap hB
    simp only[trapB,Bool.and_eq_true,decide_eq_true_eq]at this
    exact this.2.2.2.1
   have hl:=e_find_l1 b hw8 st D d l m (e_find_ok b hB hc st D d l m) f hf hin s h
   have n1: ¬((m+1:Nat):Int)=0:=by omega
   unfold findQ
   cases hq:(listsP (m+1) f b.trap.words.length).find? (falseB b)with
   |some x=>
     rw[hq]at hl
     simp only[optQ,fndQ,fndF]at hl⊢
     generalize ((m+1:Nat):Int)=M at*
     generalize ((fromOf f:Nat):Int)=N at*
     rw[den_fn t120 _ _ _ rfl]
     simp only[b120]
     simp (maxSteps:=6000000) (disch:=first|omega|assumption|decide +kernel|(simp;done)|(simp;omega)|fail) [n1,hl]
   |none=>
     rw[hq]at hl
     rw[if_neg (Nat.succ_ne_zero m)]
     simp only[optQ,fndF]at hl⊢
     generalize ((m+1:Nat):Int)=M at*
     generalize ((fromOf f:Nat):Int)=N at*
     rw[den_fn t120 _ _ _ rfl]
     simp only[b120]
     simp (maxSteps:=6000000) (disch:=first|omega|assumption|decide +kernel|(simp;done)|(simp;omega)|fail) [n1,hl]
def fewF(b:WBook)(D d l:Nat):Ab.Loc:=[(16, .cell [.ptr d l 0]),(48, .cell [i64 b.trap.words.length]),(64, .cell [.fn 120 [] (capF D)])]
def fewQ(b:WBook)(d l:Nat)(s:Stk)(x:List Int):Ex×Env×Stk:=(.ret,[(2, .sl .no 1 (es cInt x))],fewF b s.length d l::s)
theorem fewF_ok(b:WBook)(st:V)(d l:Nat)(s:Stk)(hd:d<s.length)(h:sget s d l=some (.cell (vK b st)))(X:Ab.Loc):FindS b st s.length d l ((fewF b s.length d l ++X)::s):=by
 have n2: ¬d=s.length:=by omega
 exact⟨by simp[fewF],by simp[fewF],by simp[fewF],by simp[n2,h],by simp,by simp;omega⟩
set_option maxHeartbeats 4000000 in
theorem e_few_l(b:WBook)(hB:bookB b=true)(hc:CopyB b)(st:V)(d l:Nat)(s:Stk)(hd:d<s.length)(h:sget s d l=some (.cell (vK b st))):
 Run T b78l0 [(3, .ptr s.length 48 0),(4, .ptr s.length 64 0),(18,i64 b.trap.words.length),(19,i64 0)] (fewF b s.length d l::s)=
  some (optQ (fewQ b d l s) (.exit 0,[(3, .ptr s.length 48 0),(4, .ptr s.length 64 0),(18,i64 b.trap.words.length),(19,i64 b.trap.words.length),(20, .bool false)],fewF b s.length d l::s) (((List.range b.trap.words.length).flatMap fun m=>listsP m [] b.trap.words.length).find? (falseB b))):=by
 have hw8:b.trap.words.length≤8:=by
  have:=bookB_trap hB
  simp only[trapB,Bool.and_eq_true,decide_eq_true_eq]at this
  exact this.2.2.2.1
 have n2: ¬d=s.length:=by omega
 rw[←foldS_flat]
 have hN:(List.range b.trap.words.length).length=b.trap.words.length:=List.length_range ..
 refine(loop_list0 (T:=T) (b:=d78l0) (List.range b.trap.words.length) (fun k (_:Unit)=>[(3, .ptr s.length 48 0),(4, .ptr s.length 64 0),(18,i64 b.trap.words.length),(19,i64 (k:Nat))]) (fun _ _=>fewF b s.length d l::s)
  (findL (fun m=>listsP m [] b.trap.words.length) (falseB b) (fewQ b d l s)) (fun _=>(.exit 0,[(3, .ptr s.length 48 0),(4, .ptr s.length 64 0),(18,i64 b.trap.words.length),(19,i64 b.trap.words.length),(20, .bool false)],fewF b s.length d l::s)) ?_ ?_ ?_ (by simp) () _ _ (by simp) (by simp[fewF,n2]))
 ·intro k a hk
  simp only[List.length_range]at hk
  simp only[List.getElem_range]
  have hk2:(k:Int)<b.trap.words.length:=by omega
  have h1:=fun lab=>e_find_ok b hB hc st s.length d l k [] (by simp;omega) (by simp) (fewF b s.length d l::s) (by have:=fewF_ok b st d l s hd h [];rwa [List.append_nil]at this) lab
  rw[show fromOf []=0 from rfl]at h1
  have hk9:k<1000:=by omega
  dsimp only[findL]
  unfold findQ at h1
  cases hf:(listsP k [] b.trap.words.length).find? (falseB b)with
  |some x=>
    rw[hf]at h1
    simp only[optQ,fewQ,fewF,es_nil,Int.natCast_zero]at h1⊢
    simp (maxSteps:=6000000) (disch:=first|omega|assumption|decide +kernel|(simp;done)|(simp;omega)|fail) [hk2,h1,n2]
  |none=>
    rw[hf]at h1
    simp only[optQ,fewF,es_nil,Int.natCast_zero]at h1⊢
    simp (maxSteps:=6000000) (disch:=first|omega|assumption|decide +kernel|(simp;done)|(simp;omega)|fail) [hk2,h1,n2,wk k (by omega)]
 ·intro a x q h
  unfold findL at h
  cases hf:List.find? (falseB b) (listsP x [] b.trap.words.length)with
  |some y=>rw[hf]at h;simp only[optQ,Sum.inr.injEq]at h;rw[←h];simp[fewQ]
  |none=>rw[hf]at h;simp[optQ]at h
 ·intro a
  rw[hN]
  simp[fewF,n2]
set_option maxHeartbeats 4000000 in
theorem e_fewest(b:WBook)(hB:bookB b=true)(hc:CopyB b)(hne:storiesL b≠[])(st:V)(d l:Nat)(s:Stk)(hd:d<s.length)(h:sget s d l=some (.cell (vK b st)))(lab):
 den T 78 [.ptr d l 0] lab s=some (.sl .no 1 (es cInt (blameL b)),s):=by
 have hw8:b.trap.words.length≤8:=by
  have:=bookB_trap hB
  simp only[trapB,Bool.and_eq_true,decide_eq_true_eq]at this
  exact this.2.2.2.1
 have n2: ¬d=s.length:=by omega
 have hl:=e_few_l b hB hc st d l s hd h
 have h1:=fun lab=>e_find_ok b hB hc st s.length d l b.trap.words.length [] (by simp;omega) (by simp) (fewF b s.length d l::s) (by have:=fewF_ok b st d l s hd h [];rwa [List.append_nil]at this) lab
 rw[show fromOf []=0 from rfl]at h1
 have hsp:=(blame_spec (bookB_ok hB) hne).2.1
 have ebl:=blameL_at (b:=b) hw8
 unfold findQ at h1
 rw[full_at b.trap.words.length (by omega),show(List.range b.trap.words.length).map (fun(k:Nat)=>(k:Int))=fullW b from rfl]at h1
 cases hf:((List.range b.trap.words.length).flatMap fun m=>listsP m [] b.trap.words.length).find? (falseB b)with
 |some x=>
   rw[hf]at hl ebl
   rw[Option.getD_some]at ebl
   rw[ebl]
   simp only[optQ,fewQ,fewF]at hl
   rw[den_fn t78 _ _ _ rfl]
   simp only[b78]
   simp (maxSteps:=6000000) (disch:=first|omega|assumption|decide +kernel|(simp;done)|(simp;omega)|fail) [h,n2,hl]
 |none=>
   rw[hf]at hl ebl
   rw[Option.getD_none]at ebl
   rw[ebl]at hsp⊢
   rw[List.find?_cons,hsp]at h1
   simp only[optQ,fewF,es_nil,Int.natCast_zero]at hl h1
   generalize fullW b=W at*
   rw[den_fn t78 _ _ _ rfl]
   simp only[b78]
   simp (maxSteps:=6000000) (disch:=first|omega|assumption|decide +kernel|(simp;done)|(simp;omega)|fail) [h,n2,hl,h1]
set_option maxHeartbeats 4000000 in
theorem e_BlameW(b:WBook)(hc:CopyB b)(lab s):den T 22 [.agg (vB b)] lab s=some (.tup [.sl .no 1 (es cInt (if open11 b true=0 then blameL b else [])),i64 (open11 b true)],s):=by
 by_cases h:open11 b true=0
 ·have h2:=fun(F:Ab.Loc) lab k0=>e_told b hc true h F s lab k0
  obtain⟨hB,_,hne⟩:=open11_ok h
  have h3:=fun(F:Ab.Loc) (hF:F.get 128=some (.cell (vK b (stG b)))) lab=>e_fewest b hB hc hne (stG b) s.length 128 (F::s) (by simp) (by simp[hF]) lab
  rw[if_pos h,h]
  unfold stG at h2 h3
  generalize blameL b=M at*
  generalize sortG b=G at*
  rw[den_fn t22 _ _ _ rfl]
  simp only[b22]
  simp (maxSteps:=6000000) (disch:=first|omega|assumption|decide +kernel|(simp;done)|(simp;omega)|fail) [h2,h3]
 ·have h1:=fun lab s=>e_told_no b hc true h lab s
  rw[if_neg h]
  rw[den_fn t22 _ _ _ rfl]
  simp only[b22]
  simp (maxSteps:=6000000) (disch:=first|omega|assumption|decide +kernel|(simp;done)|(simp;omega)|fail) [h1,h]
theorem e_FalseW(b:WBook)(hc:CopyB b)(lab s):den T 31 [.agg (vB b)] lab s=some (.tup [i64 ((if open11 b true=0 then blameL b else []).length:Nat),i64 (open11 b true)],s):=by
 have h1:=fun lab s=>e_BlameW b hc lab s
 generalize (if open11 b true=0 then blameL b else [])=W at*
 rw[den_fn t31 _ _ _ rfl]
 simp only[b31]
 simp (maxSteps:=1000000) (disch:=first|omega|assumption|decide +kernel|(simp;done)|(simp;omega)|fail) [h1]
end Go.Proofs.YthghcainodgnkaaGreat

/-
  Nothing.
-/
namespace Go.Proofs.YthghcainodgnkaaGreat
end Go.Proofs.YthghcainodgnkaaGreat

/-
  Watch: the reference's Copy of a book, for one that turns it (not built yet).
-/
namespace Go.Proofs.YthghcainodgnkaaGreat
open Go.Ab
structure CopyW(b:WBook):Prop where
 opn:b.trap.opn.length<5864062014800
 words:b.trap.words.length<4398046511104
 each: ∀l,l∈b.trap.opn→l.length<17592186044416
 sober:b.sober.length<17592186044416
set_option maxHeartbeats 4000000 in
theorem e_Copy11_00(b:WBook)(hc:CopyW b)(loc:Ab.Loc)(s:Stk)(lab:Nat)(hw:b.trap.words=[])(h0:b.sober=[])(k0:loc.get lab=none):
 den T 28 [.agg (vB b)] lab (loc::s)=some (.agg [i64 b.trap.chambers,i64 b.trap.times, .sl (.own s.length lab) 1 (es cInts b.trap.opn), .sl .full 4 [],i64 b.drunk,i64 b.run, .sl .full 1 []],loc.put lab (.tok b.trap.opn.length)::s):=by
 obtain⟨h1,h2,h3,h4⟩:=hc
 have hs:ShortT b.trap:=⟨by omega,by omega,fun l hl=>by have:=h3 l hl;omega⟩
 have hC0:=fun(hw:b.trap.words=[]) (loc2:Ab.Loc) lab k0=>e_Copy01g_0 b.trap hs h1 h3 hw loc2 (loc::s) lab k0
 have hC1:=fun(hw:b.trap.words≠[]) (loc2:Ab.Loc) lab k0 k1=>e_Copy01g_1 b.trap hs h1 h2 h3 hw loc2 (loc::s) lab k0 k1
 have hn: ∀l:List Int,l≠[]→es cInt l≠[]:=fun l h=>by simpa using h
 first
 |
  have hC:=hC0 hw
  clear hC0 hC1
  have k1:=k1
  have hn:=hn _ h0
  clear h3
  rw[den_fn t28 _ _ _ rfl]
  simp only[b28]
  simp (maxSteps:=6000000) (disch:=first|omega|assumption|decide +kernel|(simp;done)|(simp;omega)|fail) [run_drawnK,orSlow_none,hC,hn,appD_full,k0,k1]
  done
 |
  have hC:=hC0 hw
  clear hC0 hC1 hn
  rw[den_fn t28 _ _ _ rfl]
  simp only[b28]
  simp (maxSteps:=6000000) (disch:=first|omega|assumption|decide +kernel|(simp;done)|(simp;omega)|fail) [run_drawnK,orSlow_none,hC,h0,appD_full_nil,k0]
  done
 |
  have hC:=hC1 hw
  clear hC0 hC1
  have k2:=k2
  have hn:=hn _ h0
  rw[den_fn t28 _ _ _ rfl]
  simp only[b28]
  simp (maxSteps:=6000000) (disch:=first|omega|assumption|decide +kernel|(simp;done)|(simp;omega)|fail) [run_drawnK,orSlow_none,hC,hn,appD_full,k0,k1,k2]
  done
 |
  have hC:=hC1 hw
  clear hC0 hC1 hn
  rw[den_fn t28 _ _ _ rfl]
  simp only[b28]
  simp (maxSteps:=6000000) (disch:=first|omega|assumption|decide +kernel|(simp;done)|(simp;omega)|fail) [run_drawnK,orSlow_none,hC,h0,appD_full_nil,k0,k1]
  done
set_option maxHeartbeats 4000000 in
theorem e_Copy11_01(b:WBook)(hc:CopyW b)(loc:Ab.Loc)(s:Stk)(lab:Nat)(hw:b.trap.words=[])(h0:b.sober≠[])(k0:loc.get lab=none)(k1:loc.get (lab+1000)=none):
 den T 28 [.agg (vB b)] lab (loc::s)=some (.agg [i64 b.trap.chambers,i64 b.trap.times, .sl (.own s.length lab) 1 (es cInts b.trap.opn), .sl .full 4 [],i64 b.drunk,i64 b.run, .sl (.own s.length (lab+1000)) 1 (es cInt b.sober)],(loc.put lab (.tok b.trap.opn.length)).put (lab+1000) (.tok b.sober.length)::s):=by
 obtain⟨h1,h2,h3,h4⟩:=hc
 have hs:ShortT b.trap:=⟨by omega,by omega,fun l hl=>by have:=h3 l hl;omega⟩
 have hC0:=fun(hw:b.trap.words=[]) (loc2:Ab.Loc) lab k0=>e_Copy01g_0 b.trap hs h1 h3 hw loc2 (loc::s) lab k0
 have hC1:=fun(hw:b.trap.words≠[]) (loc2:Ab.Loc) lab k0 k1=>e_Copy01g_1 b.trap hs h1 h2 h3 hw loc2 (loc::s) lab k0 k1
 have hn: ∀l:List Int,l≠[]→es cInt l≠[]:=fun l h=>by simpa using h
 first
 |
  have hC:=hC0 hw
  clear hC0 hC1
  have k1:=k1
  have hn:=hn _ h0
  clear h3
  rw[den_fn t28 _ _ _ rfl]
  simp only[b28]
  simp (maxSteps:=6000000) (disch:=first|omega|assumption|decide +kernel|(simp;done)|(simp;omega)|fail) [run_drawnK,orSlow_none,hC,hn,appD_full,k0,k1]
  done
 |
  have hC:=hC0 hw
  clear hC0 hC1 hn
  rw[den_fn t28 _ _ _ rfl]
  simp only[b28]
  simp (maxSteps:=6000000) (disch:=first|omega|assumption|decide +kernel|(simp;done)|(simp;omega)|fail) [run_drawnK,orSlow_none,hC,h0,appD_full_nil,k0]
  done
 |
  have hC:=hC1 hw
  clear hC0 hC1
  have k2:=k2
  have hn:=hn _ h0
  rw[den_fn t28 _ _ _ rfl]
  simp only[b28]
  simp (maxSteps:=6000000) (disch:=first|omega|assumption|decide +kernel|(simp;done)|(simp;omega)|fail) [run_drawnK,orSlow_none,hC,hn,appD_full,k0,k1,k2]
  done
 |
  have hC:=hC1 hw
  clear hC0 hC1 hn
  rw[den_fn t28 _ _ _ rfl]
  simp only[b28]
  simp (maxSteps:=6000000) (disch:=first|omega|assumption|decide +kernel|(simp;done)|(simp;omega)|fail) [run_drawnK,orSlow_none,hC,h0,appD_full_nil,k0,k1]
  done
set_option maxHeartbeats 4000000 in
theorem e_Copy11_10(b:WBook)(hc:CopyW b)(loc:Ab.Loc)(s:Stk)(lab:Nat)(hw:b.trap.words≠[])(h0:b.sober=[])(k0:loc.get lab=none)(k1:loc.get (lab+1000)=none):
 den T 28 [.agg (vB b)] lab (loc::s)=some (.agg [i64 b.trap.chambers,i64 b.trap.times, .sl (.own s.length lab) 1 (es cInts b.trap.opn), .sl (.own s.length (lab+1000)) 4 (es cWord b.trap.words),i64 b.drunk,i64 b.run, .sl .full 1 []],(loc.put lab (.tok b.trap.opn.length)).put (lab+1000) (.tok b.trap.words.length)::s):=by
 obtain⟨h1,h2,h3,h4⟩:=hc
 have hs:ShortT b.trap:=⟨by omega,by omega,fun l hl=>by have:=h3 l hl;omega⟩
 have hC0:=fun(hw:b.trap.words=[]) (loc2:Ab.Loc) lab k0=>e_Copy01g_0 b.trap hs h1 h3 hw loc2 (loc::s) lab k0
 have hC1:=fun(hw:b.trap.words≠[]) (loc2:Ab.Loc) lab k0 k1=>e_Copy01g_1 b.trap hs h1 h2 h3 hw loc2 (loc::s) lab k0 k1
 have hn: ∀l:List Int,l≠[]→es cInt l≠[]:=fun l h=>by simpa using h
 first
 |
  have hC:=hC0 hw
  clear hC0 hC1
  have k1:=k1
  have hn:=hn _ h0
  clear h3
  rw[den_fn t28 _ _ _ rfl]
  simp only[b28]
  simp (maxSteps:=6000000) (disch:=first|omega|assumption|decide +kernel|(simp;done)|(simp;omega)|fail) [run_drawnK,orSlow_none,hC,hn,appD_full,k0,k1]
  done
 |
  have hC:=hC0 hw
  clear hC0 hC1 hn
  rw[den_fn t28 _ _ _ rfl]
  simp only[b28]
  simp (maxSteps:=6000000) (disch:=first|omega|assumption|decide +kernel|(simp;done)|(simp;omega)|fail) [run_drawnK,orSlow_none,hC,h0,appD_full_nil,k0]
  done
 |
  have hC:=hC1 hw
  clear hC0 hC1
  have k2:=k2
  have hn:=hn _ h0
  rw[den_fn t28 _ _ _ rfl]
  simp only[b28]
  simp (maxSteps:=6000000) (disch:=first|omega|assumption|decide +kernel|(simp;done)|(simp;omega)|fail) [run_drawnK,orSlow_none,hC,hn,appD_full,k0,k1,k2]
  done
 |
  have hC:=hC1 hw
  clear hC0 hC1 hn
  rw[den_fn t28 _ _ _ rfl]
  simp only[b28]
  simp (maxSteps:=6000000) (disch:=first|omega|assumption|decide +kernel|(simp;done)|(simp;omega)|fail) [run_drawnK,orSlow_none,hC,h0,appD_full_nil,k0,k1]
  done
set_option maxHeartbeats 4000000 in
theorem e_Copy11_11(b:WBook)(hc:CopyW b)(loc:Ab.Loc)(s:Stk)(lab:Nat)(hw:b.trap.words≠[])(h0:b.sober≠[])(k0:loc.get lab=none)(k1:loc.get (lab+1000)=none)(k2:loc.get (lab+2000)=none):
 den T 28 [.agg (vB b)] lab (loc::s)=some (.agg [i64 b.trap.chambers,i64 b.trap.times, .sl (.own s.length lab) 1 (es cInts b.trap.opn), .sl (.own s.length (lab+1000)) 4 (es cWord b.trap.words),i64 b.drunk,i64 b.run, .sl (.own s.length (lab+2000)) 1 (es cInt b.sober)],((loc.put lab (.tok b.trap.opn.length)).put (lab+1000) (.tok b.trap.words.length)).put (lab+2000) (.tok b.sober.length)::s):=by
 obtain⟨h1,h2,h3,h4⟩:=hc
 have hs:ShortT b.trap:=⟨by omega,by omega,fun l hl=>by have:=h3 l hl;omega⟩
 have hC0:=fun(hw:b.trap.words=[]) (loc2:Ab.Loc) lab k0=>e_Copy01g_0 b.trap hs h1 h3 hw loc2 (loc::s) lab k0
 have hC1:=fun(hw:b.trap.words≠[]) (loc2:Ab.Loc) lab k0 k1=>e_Copy01g_1 b.trap hs h1 h2 h3 hw loc2 (loc::s) lab k0 k1
 have hn: ∀l:List Int,l≠[]→es cInt l≠[]:=fun l h=>by simpa using h
 first
 |
  have hC:=hC0 hw
  clear hC0 hC1
  have k1:=k1
  have hn:=hn _ h0
  clear h3
  rw[den_fn t28 _ _ _ rfl]
  simp only[b28]
  simp (maxSteps:=6000000) (disch:=first|omega|assumption|decide +kernel|(simp;done)|(simp;omega)|fail) [run_drawnK,orSlow_none,hC,hn,appD_full,k0,k1]
  done
 |
  have hC:=hC0 hw
  clear hC0 hC1 hn
  rw[den_fn t28 _ _ _ rfl]
  simp only[b28]
  simp (maxSteps:=6000000) (disch:=first|omega|assumption|decide +kernel|(simp;done)|(simp;omega)|fail) [run_drawnK,orSlow_none,hC,h0,appD_full_nil,k0]
  done
 |
  have hC:=hC1 hw
  clear hC0 hC1
  have k2:=k2
  have hn:=hn _ h0
  rw[den_fn t28 _ _ _ rfl]
  simp only[b28]
  simp (maxSteps:=6000000) (disch:=first|omega|assumption|decide +kernel|(simp;done)|(simp;omega)|fail) [run_drawnK,orSlow_none,hC,hn,appD_full,k0,k1,k2]
  done
 |
  have hC:=hC1 hw
  clear hC0 hC1 hn
  rw[den_fn t28 _ _ _ rfl]
  simp only[b28]
  simp (maxSteps:=6000000) (disch:=first|omega|assumption|decide +kernel|(simp;done)|(simp;omega)|fail) [run_drawnK,orSlow_none,hC,h0,appD_full_nil,k0,k1]
  done
end Go.Proofs.YthghcainodgnkaaGreat

/-
  Watch, laws: equal books.
-/
namespace Go.Proofs.YthghcainodgnkaaGreat
open Go.Ab
end Go.Proofs.YthghcainodgnkaaGreat

/-
  Watch, laws: Huge, Far, ready (not built yet).
-/
namespace Go.Proofs.YthghcainodgnkaaGreat
open Go.Ab
structure ShortB(b:WBook):Prop where
 trap:ShortT b.trap
 sober:b.sober.length<4611686018427387904
def hugeL(l:List (List Int)):Bool:=decide (40<l.length)|| !allB (fun r=>decide (r.length≤40)) l
def hugeT(t:CTrap):Bool:=hugeL t.opn||decide (40<t.words.length)
def hugeK(b:WBook):Bool:=hugeT b.trap||decide (40<b.sober.length)
theorem e_huge_l(l:List (List Int))(hl:l.length≤40)(s:Stk)(he: ∀r,r∈l→r.length<4611686018427387904):
 Run T b132l0 [(0, .sl .no 1 (es cInts l)),(3,i64 0)] ([]::s)=
  if allB (fun r=>decide (r.length≤40)) l=true then some (.exit 0,[(0, .sl .no 1 (es cInts l)),(3,i64 l.length),(10, .bool false)],[]::s)else some (.ret,[(2, .bool true)],[]::s):=by
 refine loop_all l (fun r=>decide (r.length≤40)) (fun k=>[(0, .sl .no 1 (es cInts l)),(3,i64 k)]) (fun _=>[]::s) _ _ (by simp) (by simp) ?_ (by simp) _ _ (by simp) (by simp)
 intro k hk
 have hk2:(k:Int)<l.length:=by omega
 generalize hR:l[k]=R at*
 by_cases h:R.length≤40
 ·have h2: ¬(40:Int)<R.length:=by omega
  simp (maxSteps:=1000000) (disch:=first|omega|assumption|decide +kernel|(simp;done)|(simp;omega)|fail) [hk,hk2,hR,h,h2,wk k (by omega)]
 ·have h2:(40:Int)<R.length:=by omega
  simp (maxSteps:=1000000) (disch:=first|omega|assumption|decide +kernel|(simp;done)|(simp;omega)|fail) [hk,hk2,hR,h,h2,wk k (by omega)]
theorem e_huge(l:List (List Int))(hl:l.length<4611686018427387904)(he: ∀r,r∈l→r.length<4611686018427387904)(lab s):den T 132 [.sl .no 1 (es cInts l)] lab s=some (.bool (hugeL l),s):=by
 unfold hugeL
 rw[den_fn t132 _ _ _ rfl]
 simp only[b132]
 by_cases h:40<l.length
 ·have h2:(40:Int)<l.length:=by omega
  simp (maxSteps:=1000000) (disch:=first|omega|assumption|decide +kernel|(simp;done)|(simp;omega)|fail) [h,h2]
 ·have h2: ¬(40:Int)<l.length:=by omega
  have h1:=e_huge_l l (by omega) s he
  cases ha:allB (fun r=>decide (r.length≤40)) l
  ·rw[ha,if_neg (by simp)]at h1
   simp (maxSteps:=1000000) (disch:=first|omega|assumption|decide +kernel|(simp;done)|(simp;omega)|fail) [h,h2,h1]
  ·rw[ha,if_pos rfl]at h1
   simp (maxSteps:=1000000) (disch:=first|omega|assumption|decide +kernel|(simp;done)|(simp;omega)|fail) [h,h2,h1]
theorem e_Huge01(t:CTrap)(hs:ShortT t)(lab s):den T 88 [.agg (vT t)] lab s=some (.bool (hugeT t),s):=by
 have h1:=fun lab s=>e_huge t.opn hs.opn hs.each lab s
 have hw:=hs.words
 unfold hugeT
 rw[den_fn t88 _ _ _ rfl]
 simp only[b88]
 cases c:hugeL t.opn
 ·by_cases h:40<t.words.length
  ·have h2:(40:Int)<t.words.length:=by omega
   simp (maxSteps:=1000000) (disch:=first|omega|assumption|decide +kernel|(simp;done)|(simp;omega)|fail) [h1,c,h,h2]
  ·have h2: ¬(40:Int)<t.words.length:=by omega
   simp (maxSteps:=1000000) (disch:=first|omega|assumption|decide +kernel|(simp;done)|(simp;omega)|fail) [h1,c,h,h2]
 ·simp (maxSteps:=1000000) (disch:=first|omega|assumption|decide +kernel|(simp;done)|(simp;omega)|fail) [h1,c]
theorem e_Huge11(b:WBook)(hs:ShortB b)(lab s):den T 36 [.agg (vB b)] lab s=some (.bool (hugeK b),s):=by
 have h1:=fun lab s=>e_Huge01 b.trap hs.trap lab s
 have hw:=hs.sober
 unfold hugeK
 rw[den_fn t36 _ _ _ rfl]
 simp only[b36]
 cases c:hugeT b.trap
 ·by_cases h:40<b.sober.length
  ·have h2:(40:Int)<b.sober.length:=by omega
   simp (maxSteps:=1000000) (disch:=first|omega|assumption|decide +kernel|(simp;done)|(simp;omega)|fail) [h1,c,h,h2]
  ·have h2: ¬(40:Int)<b.sober.length:=by omega
   simp (maxSteps:=1000000) (disch:=first|omega|assumption|decide +kernel|(simp;done)|(simp;omega)|fail) [h1,c,h,h2]
 ·simp (maxSteps:=1000000) (disch:=first|omega|assumption|decide +kernel|(simp;done)|(simp;omega)|fail) [h1,c]
theorem hugeK_copy {b:WBook}(h:hugeK b=false):CopyB b:=by
 simp only[hugeK,hugeT,hugeL,Bool.or_eq_false_iff,decide_eq_false_iff_not,Bool.not_eq_false',allB_iff,decide_eq_true_eq]at h
 obtain⟨⟨⟨h1,h2⟩,h3⟩,h4⟩:=h
 exact⟨⟨by omega,by omega,fun l hl=>by have:=h2 l hl;omega⟩,by omega⟩
def farB(b:WBook):Bool:=hugeK b||((decide (3<b.trap.chambers)||decide (4<b.trap.times))&&bookB b)
def readyK(b:WBook):Bool:= !farB b&&bookB b
theorem e_Far(b:WBook)(hs:ShortB b)(lab s):den T 27 [.agg (vB b)] lab s=some (.bool (farB b),s):=by
 have h1:=fun lab s=>e_Huge11 b hs lab s
 unfold farB
 cases c:hugeK b
 ·have h2:=fun lab s=>e_Check11 b (hugeK_copy c) lab s
  rw[den_fn t27 _ _ _ rfl]
  simp only[b27]
  by_cases q1:3<b.trap.chambers
  ·cases q:bookB b<;>simp (maxSteps:=1000000) (disch:=first|omega|assumption|decide +kernel|(simp;done)|(simp;omega)|fail) [h1,h2,c,q1,q]
  ·by_cases q2:4<b.trap.times
   ·cases q:bookB b<;>simp (maxSteps:=1000000) (disch:=first|omega|assumption|decide +kernel|(simp;done)|(simp;omega)|fail) [h1,h2,c,q1,q2,q]
   ·simp (maxSteps:=1000000) (disch:=first|omega|assumption|decide +kernel|(simp;done)|(simp;omega)|fail) [h1,h2,c,q1,q2]
 ·rw[den_fn t27 _ _ _ rfl]
  simp only[b27]
  simp (maxSteps:=1000000) (disch:=first|omega|assumption|decide +kernel|(simp;done)|(simp;omega)|fail) [h1,c]
theorem farB_copy {b:WBook}(h:farB b=false):CopyB b:=by
 unfold farB at h
 exact hugeK_copy (by rw[Bool.or_eq_false_iff]at h;exact h.1)
theorem readyK_ok {b:WBook}(h:readyK b=true):CopyB b∧bookB b=true∧b.trap.chambers≤3∧b.trap.times≤4:=by
 simp only[readyK,Bool.and_eq_true,Bool.not_eq_true']at h
 obtain⟨h1,h2⟩:=h
 refine⟨farB_copy h1,h2,?_⟩
 simp only[farB,Bool.or_eq_false_iff,h2,Bool.and_true,decide_eq_false_iff_not]at h1
 omega
theorem e_ready(b:WBook)(hs:ShortB b)(lab s):den T 16 [.agg (vB b)] lab s=some (.bool (readyK b),s):=by
 have h1:=fun lab s=>e_Far b hs lab s
 unfold readyK
 cases c:farB b
 ·have h2:=fun lab s=>e_Check11 b (farB_copy c) lab s
  rw[den_fn t16 _ _ _ rfl]
  simp only[b16]
  cases q:bookB b<;>simp (maxSteps:=1000000) (disch:=first|omega|assumption|decide +kernel|(simp;done)|(simp;omega)|fail) [h1,h2,c,q]
 ·rw[den_fn t16 _ _ _ rfl]
  simp only[b16]
  simp (maxSteps:=1000000) (disch:=first|omega|assumption|decide +kernel|(simp;done)|(simp;omega)|fail) [h1,c]
end Go.Proofs.YthghcainodgnkaaGreat

/-
  What the arguments of the laws of watch read as.
-/
namespace Go.Proofs.YthghcainodgnkaaGreat
open Go.Ab
set_option maxRecDepth 100000
theorem cells57:Tryz.prog.cellsOf 57=4:=by kernel_rfl
theorem cells3:Tryz.prog.cellsOf 3=1:=by kernel_rfl
theorem cells26:Tryz.prog.cellsOf 26=1:=by kernel_rfl
variable {B : TypeId → Nat → Prop} {n : Nat} {vs : List V}
theorem fit_int(h:Fit Tryz.prog B (n+1) 3 vs): ∃x,vs=[i64 x]:=by
 simp only[Fit,Tryz.underlying3]at h
 exact h
theorem es_all {α:Type} {f:α→List V}(l:List (List V))(h: ∀x∈l,∃y,x=f y): ∃l':List α,l=es f l':=by
 obtain⟨l',h1,_⟩:=es_of (Q:=fun _=>True) l fun x hx=>by obtain⟨y,hy⟩:=h x hx;exact⟨y,hy,trivial⟩
 exact⟨l',h1⟩
theorem fit_ints(h:Fit Tryz.prog B (n+2) 26 vs): ∃l:List Int,vs=[.sl .no 1 (es cInt l)]∧B 3 l.length:=by
 rw[Fit,Tryz.underlying26]at h
 simp only at h
 obtain⟨l,rfl,hb,h⟩:=h
 obtain⟨l',rfl⟩:=es_all (f:=cInt) l fun x hx=>by obtain⟨y,hy⟩:=fit_int (h x hx);exact⟨y,hy⟩
 rw[cells3]
 exact⟨l',rfl,by simpa using hb⟩
theorem fit_lists(h:Fit Tryz.prog B (n+3) 22 vs): ∃l:List (List Int),vs=[.sl .no 1 (es cInts l)]∧B 26 l.length∧ ∀x,x∈l→B 3 x.length:=by
 rw[Fit,Tryz.underlying22]at h
 simp only at h
 obtain⟨l,rfl,hb,h⟩:=h
 obtain⟨l',h1,h2⟩:=es_of (f:=cInts) (Q:=fun x=>B 3 x.length) l fun x hx=>by obtain⟨y,hy,hy2⟩:=fit_ints (h x hx);exact⟨y,hy,hy2⟩
 subst h1
 rw[cells26]
 exact⟨l',rfl,by simpa using hb,h2⟩
theorem fit_cword(h:Fit Tryz.prog B (n+2) 57 vs): ∃x:CWord,vs=cWord x:=by
 rw[Fit,Tryz.underlying57]at h
 simp only[FitF]at h
 obtain⟨_,_,rfl,h0,_,_,rfl,h1,_,_,rfl,h2,_,_,rfl,h3,rfl⟩:=h
 obtain⟨a,rfl⟩:=fit_int h0
 obtain⟨b,rfl⟩:=fit_int h1
 obtain⟨c,rfl⟩:=fit_int h2
 obtain⟨d,rfl⟩:=fit_int h3
 exact⟨⟨a,b,c,d⟩,rfl⟩
theorem fit_words(h:Fit Tryz.prog B (n+3) 23 vs): ∃l:List CWord,vs=[.sl .no 4 (es cWord l)]∧B 57 l.length:=by
 rw[Fit,Tryz.underlying23]at h
 simp only at h
 obtain⟨l,rfl,hb,h⟩:=h
 obtain⟨l',rfl⟩:=es_all (f:=cWord) l fun x hx=>fit_cword (h x hx)
 rw[cells57]
 exact⟨l',rfl,by simpa using hb⟩
def Reach(e:TypeId)(k:Nat):Prop:=k≤maxLen∧k*Tryz.prog.bytesOf e≤reachBytes
theorem bytes57:Tryz.prog.bytesOf 57=32:=by kernel_rfl
theorem bytes3:Tryz.prog.bytesOf 3=8:=by kernel_rfl
theorem bytes26:Tryz.prog.bytesOf 26=24:=by kernel_rfl
end Go.Proofs.YthghcainodgnkaaGreat

/-
  Watch, laws: the examples, works; for a Copy that owns its result (in place of H4).
-/
namespace Go.Proofs.YthghcainodgnkaaGreat
open Go.Ab
theorem e_word11(a b c d:Int)(lab s):den T 117 [i64 a,i64 b,i64 c,i64 d] lab s=some (.agg [i64 a,i64 b,i64 c,i64 d],s):=by
 rw[den_fn t117 _ _ _ rfl]
 simp only[b117]
 simp (maxSteps:=1000000) (disch:=first|omega|assumption|decide +kernel|(simp;done)|(simp;omega)|fail) []
theorem exB_copy:CopyB exB:=hugeK_copy (by decide)
theorem exC_copy:CopyB exC:=hugeK_copy (by decide)
theorem exB_ok:bookB exB=true:=by decide +kernel
theorem exC_ok:bookB exC=true:=by decide +kernel
theorem exB_copyW:CopyW exB:=⟨by decide,by decide,by decide,by decide⟩
theorem exB_mid:Mid exB.trap:=trapB_mid (bookB_trap exB_ok)
set_option maxHeartbeats 2000000 in
theorem e_Example11(lab s):den T 73 [] lab s=some (.tup [.agg (vB exB), .agg (vB exC)],s):=by
 have hC:=fun(loc:Ab.Loc) s lab k0 k1 k2=>e_Copy11_11 exB exB_copyW loc s lab (by decide) (by decide) k0 k1 k2
 simp only[vB,exB,exC,es,List.map_cons,List.map_nil,cInts_eq,cInts,cInt,cWord]at hC⊢
 rw[den_fn t73 _ _ _ rfl]
 simp only[b73]
 simp (maxSteps:=6000000) (disch:=first|omega|assumption|decide +kernel|(simp;done)|(simp;omega)|fail) [run_drawnK,orSlow_none,e_word11,hC]
set_option maxHeartbeats 4000000 in
@[simp] theorem e_works11(lab s):den T 17 [] lab s=some (.bool true,s):=by
 have o1:open11 exB true=0:=by unfold open11 ask11;rw[exB_ok];simp[ex_someB]
 have h1:=fun lab s=>e_StoriesW exC exC_copy lab s
 have h2:=fun lab s=>e_LeastW exB exB_copy lab s
 have h3:=fun lab s=>e_MustW exB exB_copy lab s
 have h4:=fun lab s=>e_LiesW exB exB_copy 2 lab s
 have h5:=fun lab s=>e_FishW exB exB_copy exB_mid 1 0 lab s
 have h6:=fun lab s=>e_BlameW exB exB_copy lab s
 have h7:=fun lab s=>e_Example11 lab s
 have e4:liesV11 exB 2=(2,0):=by
  have:wiB 2 0 ((exB.trap.words.length:Int)-1)=true:=by decide
  unfold liesV11;rw[this,o1,if_pos rfl,ex_liesB]
 have e5:fishV11 exB 1 0=(⟨2,9⟩,0):=by
  have:placeB exB.trap 1 0=true:=by decide
  unfold fishV11;rw[this,o1,if_pos rfl]
  exact congrArg (fun x=>(x,(0:Int))) ex_spanB
 rw[exC_ok,if_pos rfl,if_pos rfl,ex_storiesC]at h1
 rw[o1,if_pos rfl,ex_storiesB]at h2
 rw[o1,if_pos rfl,ex_mustB]at h3
 rw[o1,if_pos rfl,ex_blameB]at h6
 rw[e4]at h4
 rw[e5]at h5
 have s1: ∀(F:Ab.Loc) lab,den T 34 [.sl .no 1 (es cInt [0,3]), .sl .no 1 [[i64 0],[i64 3]]] lab (F::s)=some (.bool true,F::s):=fun F lab=>(e_Same2 [0,3] [0,3] (by decide) (by decide) lab (F::s)).trans rfl
 have s2: ∀(F:Ab.Loc) lab,den T 34 [.sl .no 1 (es cInt [3]), .sl .no 1 [[i64 3]]] lab (F::s)=some (.bool true,F::s):=fun F lab=>(e_Same2 [3] [3] (by decide) (by decide) lab (F::s)).trans rfl
 generalize exB=B at*
 generalize exC=C at*
 generalize ([0,3]:List Int)=L03 at*
 generalize ([3]:List Int)=L3 at*
 rw[den_fn t17 _ _ _ rfl]
 simp only[b17]
 simp (maxSteps:=6000000) (disch:=first|omega|assumption|decide +kernel|(simp;done)|(simp;omega)|fail) [run_drawnK,orSlow_none,h1,h2,h3,h4,h5,h6,h7,s1,s2,-e_Same2,eqCells]
end Go.Proofs.YthghcainodgnkaaGreat

/-
  Watch, laws: small helpers (not built yet).
-/
namespace Go.Proofs.YthghcainodgnkaaGreat
open Go.Ab
theorem e_inside(x y:CSp)(lab s):den T 109 [.agg [i64 x.lo,i64 x.hi], .agg [i64 y.lo,i64 y.hi]] lab s=some (.bool (inS x y),s):=by
 obtain⟨x1,x2⟩:=x
 obtain⟨y1,y2⟩:=y
 unfold inS
 rw[den_fn t109 _ _ _ rfl]
 simp only[b109]
 by_cases h1:y1≤x1
 ·by_cases h2:x1≤x2
  ·by_cases h3:x2≤y2<;>simp (maxSteps:=1000000) (disch:=first|omega|assumption|decide +kernel|(simp;done)|(simp;omega)|fail) [h1,h2,h3]
  ·simp (maxSteps:=1000000) (disch:=first|omega|assumption|decide +kernel|(simp;done)|(simp;omega)|fail) [h1,h2]
 ·simp (maxSteps:=1000000) (disch:=first|omega|assumption|decide +kernel|(simp;done)|(simp;omega)|fail) [h1]
theorem stories_32 {b:WBook}(h:bookB b=true):(storiesL b).length≤32:=by
 have hT:=(bookB_ok h).t6
 have h1:(storiesL b).length≤(allL b.T).length:=List.length_filter_le ..
 have h2: ∀T,T<6→(allL T).length≤32:=by decide +kernel
 exact Nat.le_trans h1 (h2 _ hT)
theorem e_stories11(b:WBook)(hB:bookB b=true)(hc:CopyB b)(lab s):den T 55 [.agg (vB b)] lab s=some (i64 ((storiesL b).length:Nat),s):=by
 have h1:=fun lab s=>e_StoriesW b hc lab s
 rw[hB,if_pos rfl,if_pos rfl]at h1
 have h2:=stories_32 hB
 generalize (storiesL b).length=n at*
 have n1: ¬(n:Int)<0:=by omega
 have n2: ¬(32:Int)<n:=by omega
 rw[den_fn t55 _ _ _ rfl]
 simp only[b55]
 simp (maxSteps:=1000000) (disch:=first|omega|assumption|decide +kernel|(simp;done)|(simp;omega)|fail) [h1,n1,n2]
def falseN(b:WBook):Int:=if storiesL b=[]then 100 else(blameL b).length
theorem blame_len {b:WBook}(hB:bookB b=true)(hne:storiesL b≠[]):(blameL b).length≤b.trap.words.length∧b.trap.words.length≤8:=by
 have hw8:b.trap.words.length≤8:=by
  have:=bookB_trap hB
  simp only[trapB,Bool.and_eq_true,decide_eq_true_eq]at this
  exact this.2.2.2.1
 obtain⟨h1,h2⟩:=allL_mem.1 (blame_spec (bookB_ok hB) hne).1
 have:=pair_lenL (lo:=0) h1 h2
 exact⟨by omega,hw8⟩
theorem open11_B {b:WBook}(h:bookB b=true) {is:Bool}:open11 b is=if is=true then(if storiesL b=[]then 3 else 0)else 1:=by
 unfold open11 ask11
 rw[h]
 cases is<;>simp
theorem e_lies11(b:WBook)(hB:bookB b=true)(hc:CopyB b)(lab s):den T 19 [.agg (vB b)] lab s=some (.tup [i64 (falseN b), .bool true],s):=by
 have h1:=fun lab s=>e_FalseW b hc lab s
 rw[open11_B hB,if_pos rfl]at h1
 unfold falseN
 by_cases h:storiesL b=[]
 ·rw[if_pos h]at h1⊢
  rw[den_fn t19 _ _ _ rfl]
  simp only[b19]
  simp (maxSteps:=1000000) (disch:=first|omega|assumption|decide +kernel|(simp;done)|(simp;omega)|fail) [run_drawnK,orSlow_none,h1]
 ·obtain⟨b1,b2⟩:=blame_len hB h
  rw[if_neg h]at h1⊢
  rw[if_pos rfl]at h1
  generalize (blameL b).length=n at*
  have n1:(n:Int)≤b.trap.words.length:=by omega
  rw[den_fn t19 _ _ _ rfl]
  simp only[b19]
  simp (maxSteps:=1000000) (disch:=first|omega|assumption|decide +kernel|(simp;done)|(simp;omega)|fail) [run_drawnK,orSlow_none,h1,n1]
end Go.Proofs.YthghcainodgnkaaGreat

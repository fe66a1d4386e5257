/-
  Watch: fewest, the search (not built yet).
-/
import Derived.Test.YthghcainodgnkaaGreatEq4
import Derived.Test.YthghcainodgnkaaGreatEq1
set_option linter.unusedSimpArgs false
set_option linter.unusedVariables false
namespace Go.Proofs.YthghcainodgnkaaGreat
open Go.Ab
abbrev capF(D:Nat):List V:=[.ptr D 16 0, .ptr D 48 0, .ptr D 64 0]
structure FindS(b:WBook)(st:V)(D d l:Nat)(s:Stk):Prop where
 bk:sget s D 16=some (.cell [.ptr d l 0])
 al:sget s D 48=some (.cell [i64 b.trap.words.length])
 fn:sget s D 64=some (.cell [.fn 120 [] (capF D)])
 book:sget s d l=some (.cell (vK b st))
 D:D<s.length
 d:d<s.length
theorem FindS.up {b st D d l s}(h:FindS b st D d l s)(F:Ab.Loc):FindS b st D d l (F::s):=by
 have h1:=h.D
 have h2:=h.d
 have n1: ¬D=s.length:=by omega
 have n2: ¬d=s.length:=by omega
 exact⟨by simp[n1,h.bk],by simp[n1,h.al],by simp[n1,h.fn],by simp[n2,h.book],by simp;omega,by simp;omega⟩
def findQ(b:WBook)(m:Nat)(f:List Int):List Int×Bool:=match (listsP m f b.trap.words.length).find? (falseB b)with
 |some x=>(x,true)
 |none=>(if m=0 then f else [],false)
theorem findQ_0(b:WBook)(f:List Int):findQ b 0 f=(f,falseB b f):=by
 unfold findQ
 rw[listsP,List.find?_cons]
 cases h:falseB b f<;>simp
set_option maxHeartbeats 4000000 in
theorem e_find_0(b:WBook)(hB:bookB b=true)(hc:CopyB b)(st:V)(D d l:Nat)(f:List Int)(hf:f.length<1000000)(hin: ∀w,w∈f→0≤w∧w<(b.trap.words.length:Int))(n:Int)(s:Stk)(h:FindS b st D d l s)(lab):
 den T 120 [.sl .no 1 (es cInt f),i64 n,i64 0, .ptr D 16 0, .ptr D 48 0, .ptr D 64 0] lab s=some (.tup [.sl .no 1 (es cInt f), .bool (falseB b f)],s):=by
 have n1: ¬D=s.length:=by have:=h.D;omega
 have n2: ¬d=s.length:=by have:=h.d;omega
 have q1:=h.bk
 have q2:=h.book
 have hok:=bookB_ok hB
 have ht:=bookB_trap hB
 have hl:=e_find_l0 b hB st f hf hin D d l s q1 q2 n1 n2
 have hlt:=orW_lt hB f 0 (by decide) hin
 have hs5:=allL_up hok.t6 hok.sober
 have h1:=fun(F:Ab.Loc) lab=>e_canBe b st _ hlt hs5 d l (F::s) (by simp;have:=h.d;omega) (by simp[n2,q2]) lab
 have h2:=fun(F:Ab.Loc) (hF:F.get 96=some (.cell [.sl .no 1 (es cInt f)])) lab=>
  e_without b hc.trap.words st d l 124 [.ptr s.length 96 0] (fun j=>f.contains (j:Int)) (F::s) (by simp;have:=h.d;omega) (by simp[n2,q2]) (by simp) (by intro keep;simp)
   (fun j hj L lab=>e_few11 f hf j s.length 96 (L::F::s) (by simp[hF]) (by simp;omega) lab) lab
 rw[keepW_drop b.trap f]at h2
 have hl2:(dropW b.trap f).words.length≤b.trap.words.length:=by
  unfold dropW
  dsimp only
  rw[List.length_map]
  have:=List.length_filter_le (fun x:CWord×Nat=> !f.contains (x.2:Int)) b.trap.words.zipIdx
  simpa using this
 have hsh:ShortT (dropW b.trap f):=⟨by have:=hc.trap.opn;show b.trap.opn.length<_;omega,by have:=hc.trap.words;omega,fun x hx=>trapB_open ht x hx⟩
 have hdB:trapB (dropW b.trap f)=true:=by
  have hm: ∀w,w∈(dropW b.trap f).words→w∈b.trap.words:=(dropW_less b.trap f).words
  simp only[trapB,Bool.and_eq_true,decide_eq_true_eq,allB,List.all_eq_true]at ht⊢
  refine⟨ht.1,ht.2.1,ht.2.2.1,by omega,ht.2.2.2.2.1,fun w hw=>ht.2.2.2.2.2 w (hm w hw)⟩
 have h3:=fun lab s=>e_hasTruth (dropW b.trap f) hsh lab s
 rw[oneT_truth hdB]at h3
 rw[←find_false hB hin]
 clear hdB hsh hl2 hlt
 generalize isOneB (dropW b.trap f)=o at*
 generalize dropW b.trap f=t2 at*
 generalize f.foldl (orW b) 0=g at*
 generalize canG b g=c at*
 rw[den_fn t120 _ _ _ rfl]
 simp only[b120]
 cases c
 ·simp (maxSteps:=6000000) (disch:=first|omega|assumption|decide +kernel|(simp;done)|(simp;omega)|fail) [run_drawnK,orSlow_none,n1,n2,q1,q2,hl,h1]
 ·simp (maxSteps:=6000000) (disch:=first|omega|assumption|decide +kernel|(simp;done)|(simp;omega)|fail) [run_drawnK,orSlow_none,n1,n2,q1,q2,hl,h1,h2,h3]
end Go.Proofs.YthghcainodgnkaaGreat

/-
  Watch: fewest, the search with words more (not built yet).
-/
namespace Go.Proofs.YthghcainodgnkaaGreat
open Go.Ab
theorem lists_none {m:Nat}(hm:0<m) {f:List Int} {b:Nat}(h:b<fromOf f+m):listsP m f b=[]:=by
 refine List.eq_nil_iff_forall_not_mem.2 fun x hx=> ?_
 obtain⟨g,_,h1,h2,h3⟩:=(lists_mem m f b x).1 hx
 have:=pair_lenL h2 h3
 omega
theorem lists_cut(m:Nat)(f:List Int)(b:Nat):listsP (m+1) f b=(List.range' (fromOf f) (b-m-fromOf f)).flatMap fun(n:Nat)=>listsP m (f ++[(n:Int)]) b:=by
 rw[listsP]
 by_cases h0:m=0
 ·subst h0;rfl
 ·have e:b-fromOf f=(b-m-fromOf f)+(b-fromOf f-(b-m-fromOf f)):=by omega
  rw[e,←List.range'_append_1,List.flatMap_append]
  have:(List.range' (fromOf f+(b-m-fromOf f)) (b-fromOf f-(b-m-fromOf f))).flatMap (fun(n:Nat)=>listsP m (f ++[(n:Int)]) b)=[]:=by
   refine flat_nil fun n hn=>lists_none (by omega) ?_
   rw[fromOf_snoc]
   have:=List.mem_range'.1 hn
   omega
  rw[this,List.append_nil]
def fndF(f:List Int):Ab.Loc:=[(96, .cell [.sl .no 1 (es cInt f)])]
def fndQ(f:List Int)(s:Stk)(x:List Int):Ex×Env×Stk:=(.ret,[(9, .sl .no 1 (es cInt x)),(10, .bool true)],[(96, .cell [.sl .no 1 (es cInt f)]),(1072, .tok (f.length+1))]::s)
def FindOk(b:WBook)(st:V)(D d l m:Nat):Prop:= ∀f:List Int,f.length+m≤8→(∀w,w∈f→0≤w∧w<(b.trap.words.length:Int))→ ∀s,FindS b st D d l s→ ∀lab,
 den T 120 [.sl .no 1 (es cInt f),i64 (fromOf f:Nat),i64 (m:Nat), .ptr D 16 0, .ptr D 48 0, .ptr D 64 0] lab s=some (.tup [.sl .no 1 (es cInt (findQ b m f).1), .bool (findQ b m f).2],s)
set_option maxHeartbeats 4000000 in
theorem e_find_l1(b:WBook)(hw8:b.trap.words.length≤8)(st:V)(D d l m:Nat)(ih:FindOk b st D d l m)(f:List Int)(hf:f.length+(m+1)≤8)(hin: ∀w,w∈f→0≤w∧w<(b.trap.words.length:Int))(s:Stk)(h:FindS b st D d l s):
 Run T b120l1 [(2,i64 ((m+1:Nat):Int)),(4, .ptr D 48 0),(5, .ptr D 64 0),(6, .ptr s.length 96 0),(14,i64 (fromOf f:Nat))] (fndF f::s)=
  some (optQ (fndQ f s) (.exit 2,[(2,i64 ((m+1:Nat):Int)),(4, .ptr D 48 0),(5, .ptr D 64 0),(6, .ptr s.length 96 0),(14,i64 ((fromOf f+(b.trap.words.length-m-fromOf f):Nat):Int)),(54, .bool false)],fndF f::s) ((listsP (m+1) f b.trap.words.length).find? (falseB b))):=by
 have n1: ¬D=s.length:=by have:=h.D;omega
 have q1:=h.al
 have q2:=h.fn
 rw[lists_cut,←foldS_flat]
 have hN:(List.range' (fromOf f) (b.trap.words.length-m-fromOf f)).length=b.trap.words.length-m-fromOf f:=List.length_range' ..
 have hfr:fromOf f≤8:=by
  unfold fromOf
  cases hg:f.getLast? with
  |none=>simp
  |some x=>have:=hin x (List.mem_of_getLast? hg);dsimp only;omega
 refine(loop_list0 (T:=T) (b:=d120l1) (List.range' (fromOf f) (b.trap.words.length-m-fromOf f)) (fun k (_:Unit)=>[(2,i64 ((m+1:Nat):Int)),(4, .ptr D 48 0),(5, .ptr D 64 0),(6, .ptr s.length 96 0),(14,i64 ((fromOf f+k:Nat):Int))]) (fun _ _=>fndF f::s)
  (findL (fun(n:Nat)=>listsP m (f ++[(n:Int)]) b.trap.words.length) (falseB b) (fndQ f s)) (fun _=>(.exit 2,[(2,i64 ((m+1:Nat):Int)),(4, .ptr D 48 0),(5, .ptr D 64 0),(6, .ptr s.length 96 0),(14,i64 ((fromOf f+(b.trap.words.length-m-fromOf f):Nat):Int)),(54, .bool false)],fndF f::s)) ?_ ?_ ?_ (by simp) () _ _ (by simp[n1]) (by simp[fndF]))
 ·intro k a hk
  rw[hN]at hk
  rw[List.getElem_range',Nat.one_mul]
  have e1:fromOf f+(k+1)=fromOf f+k+1:=by omega
  rw[e1]
  have hn9:fromOf f+k<1000:=by omega
  have hle:fromOf f+k+(m+1)≤b.trap.words.length:=by omega
  generalize fromOf f+k=n at*
  have hlt:n<b.trap.words.length:=by omega
  have ih:=fun(F:Ab.Loc) lab=>ih (f ++[(n:Int)]) (by simp;omega) (fun w hw=>by
   rcases List.mem_append.1 hw with hw|hw
   ·exact hin w hw
   ·rw[List.mem_singleton]at hw;subst hw;omega) (F::s) (h.up F) lab
  rw[fromOf_snoc]at ih
  have e0:es cInt f ++[[i64 (n:Nat)]]=es cInt (f ++[(n:Int)]):=by simp[es]
  have w1:IntKind.i64.wrap ((n:Int)+((m+1:Nat):Int))=(n:Int)+((m+1:Nat):Int):=wi _ (by omega) (by omega)
  have w2:IntKind.i64.wrap ((n:Int)+1)=((n+1:Nat):Int):=wi _ (by omega) (by omega)
  have w3:IntKind.i64.wrap (((m+1:Nat):Int)-1)=(m:Int):=by rw[wi _ (by omega) (by omega)];omega
  have hle2:(n:Int)+((m+1:Nat):Int)≤b.trap.words.length:=by omega
  have q3:(f.length+1)*8≤140737488355328:=by omega
  have q4:f.length+1<140737488355328:=by omega
  dsimp only[findL]
  unfold findQ at ih
  clear hN hfr hk
  generalize ((m+1:Nat):Int)=M at*
  generalize ((n+1:Nat):Int)=n2 at*
  cases hq:(listsP m (f ++[(n:Int)]) b.trap.words.length).find? (falseB b)with
  |some x=>
    rw[hq]at ih
    simp only[optQ,fndQ,fndF]at ih⊢
    simp (maxSteps:=6000000) (disch:=first|omega|assumption|decide +kernel|(simp;done)|(simp;omega)|fail) [run_drawnK,orSlow_none,appD_full,n1,q1,q2,q3,q4,w1,w2,w3,hle2,e0,ih]
  |none=>
    rw[hq]at ih
    simp only[optQ,fndF]at ih⊢
    simp (maxSteps:=6000000) (disch:=first|omega|assumption|decide +kernel|(simp;done)|(simp;omega)|fail) [run_drawnK,orSlow_none,appD_full,n1,q1,q2,q3,q4,w1,w2,w3,hle2,e0,ih]
 ·intro a x q h
  unfold findL at h
  cases hf:List.find? (falseB b) (listsP m (f ++[(x:Int)]) b.trap.words.length)with
  |some y=>rw[hf]at h;simp only[optQ,Sum.inr.injEq]at h;rw[←h];simp[fndQ]
  |none=>rw[hf]at h;simp[optQ]at h
 ·intro a
  rw[hN]
  have hgt: ¬((fromOf f+(b.trap.words.length-m-fromOf f):Nat):Int)+((m+1:Nat):Int)≤b.trap.words.length:=by omega
  have w1:IntKind.i64.wrap (((fromOf f+(b.trap.words.length-m-fromOf f):Nat):Int)+((m+1:Nat):Int))=((fromOf f+(b.trap.words.length-m-fromOf f):Nat):Int)+((m+1:Nat):Int):=wi _ (by omega) (by omega)
  generalize ((fromOf f+(b.trap.words.length-m-fromOf f):Nat):Int)=N at*
  generalize ((m+1:Nat):Int)=M at*
  simp (maxSteps:=6000000) (disch:=first|omega|assumption|decide +kernel|(simp;done)|(simp;omega)|fail) [fndF,n1,q1,w1,hgt]
end Go.Proofs.YthghcainodgnkaaGreat

/-
  Watch: fewest, Blame, False (not built yet).
-/
namespace Go.Proofs.YthghcainodgnkaaGreat
open Go.Ab
set_option maxHeartbeats 4000000 in
theorem e_find_ok(b:WBook)(hB:bookB b=true)(hc:CopyB b)(st:V)(D d l:Nat): ∀m,FindOk b st D d l m
 |0=>fun f hf hin s h lab=>by
   rw[findQ_0]
   exact e_find_0 b hB hc st D d l f (by omega) hin (fromOf f:Nat) s h lab
 |m+1=>fun f hf hin s h lab=>by
   have hw8:b.trap.words.length≤8:=by
    have:=bookB_trap hB
    simp only[trapB,Bool.and_eq_true,decide_eq_true_eq]at this
    exact this.2.2.2.1
   have hl:=e_find_l1 b hw8 st D d l m (e_find_ok b hB hc st D d l m) f hf hin s h
   have n1: ¬((m+1:Nat):Int)=0:=by omega
   unfold findQ
   cases hq:(listsP (m+1) f b.trap.words.length).find? (falseB b)with
   |some x=>
     rw[hq]at hl
     simp only[optQ,fndQ,fndF]at hl⊢
     generalize ((m+1:Nat):Int)=M at*
     generalize ((fromOf f:Nat):Int)=N at*
     rw[den_fn t120 _ _ _ rfl]
     simp only[b120]
     simp (maxSteps:=6000000) (disch:=first|omega|assumption|decide +kernel|(simp;done)|(simp;omega)|fail) [n1,hl]
   |none=>
     rw[hq]at hl
     rw[if_neg (Nat.succ_ne_zero m)]
     simp only[optQ,fndF]at hl⊢
     generalize ((m+1:Nat):Int)=M at*
     generalize ((fromOf f:Nat):Int)=N at*
     rw[den_fn t120 _ _ _ rfl]
     simp only[b120]
     simp (maxSteps:=6000000) (disch:=first|omega|assumption|decide +kernel|(simp;done)|(simp;omega)|fail) [n1,hl]
def fewF(b:WBook)(D d l:Nat):Ab.Loc:=[(16, .cell [.ptr d l 0]),(48, .cell [i64 b.trap.words.length]),(64, .cell [.fn 120 [] (capF D)])]
def fewQ(b:WBook)(d l:Nat)(s:Stk)(x:List Int):Ex×Env×Stk:=(.ret,[(2, .sl .no 1 (es cInt x))],fewF b s.length d l::s)
theorem fewF_ok(b:WBook)(st:V)(d l:Nat)(s:Stk)(hd:d<s.length)(h:sget s d l=some (.cell (vK b st)))(X:Ab.Loc):FindS b st s.length d l ((fewF b s.length d l ++X)::s):=by
 have n2: ¬d=s.length:=by omega
 exact⟨by simp[fewF],by simp[fewF],by simp[fewF],by simp[n2,h],by simp,by simp;omega⟩
set_option maxHeartbeats 4000000 in
theorem e_few_l(b:WBook)(hB:bookB b=true)(hc:CopyB b)(st:V)(d l:Nat)(s:Stk)(hd:d<s.length)(h:sget s d l=some (.cell (vK b st))):
 Run T b78l0 [(3, .ptr s.length 48 0),(4, .ptr s.length 64 0),(18,i64 b.trap.words.length),(19,i64 0)] (fewF b s.length d l::s)=
  some (optQ (fewQ b d l s) (.exit 0,[(3, .ptr s.length 48 0),(4, .ptr s.length 64 0),(18,i64 b.trap.words.length),(19,i64 b.trap.words.length),(20, .bool false)],fewF b s.length d l::s) (((List.range b.trap.words.length).flatMap fun m=>listsP m [] b.trap.words.length).find? (falseB b))):=by
 have hw8:b.trap.words.length≤8:=by
  have:=bookB_trap hB
  simp only[trapB,Bool.and_eq_true,decide_eq_true_eq]at this
  exact this.2.2.2.1
 have n2: ¬d=s.length:=by omega
 rw[←foldS_flat]
 have hN:(List.range b.trap.words.length).length=b.trap.words.length:=List.length_range ..
 refine(loop_list0 (T:=T) (b:=d78l0) (List.range b.trap.words.length) (fun k (_:Unit)=>[(3, .ptr s.length 48 0),(4, .ptr s.length 64 0),(18,i64 b.trap.words.length),(19,i64 (k:Nat))]) (fun _ _=>fewF b s.length d l::s)
  (findL (fun m=>listsP m [] b.trap.words.length) (falseB b) (fewQ b d l s)) (fun _=>(.exit 0,[(3, .ptr s.length 48 0),(4, .ptr s.length 64 0),(18,i64 b.trap.words.length),(19,i64 b.trap.words.length),(20, .bool false)],fewF b s.length d l::s)) ?_ ?_ ?_ (by simp) () _ _ (by simp) (by simp[fewF,n2]))
 ·intro k a hk
  simp only[List.length_range]at hk
  simp only[List.getElem_range]
  have hk2:(k:Int)<b.trap.words.length:=by omega
  have h1:=fun lab=>e_find_ok b hB hc st s.length d l k [] (by simp;omega) (by simp) (fewF b s.length d l::s) (by have:=fewF_ok b st d l s hd h [];rwa [List.append_nil]at this) lab
  rw[show fromOf []=0 from rfl]at h1
  have hk9:k<1000:=by omega
  dsimp only[findL]
  unfold findQ at h1
  cases hf:(listsP k [] b.trap.words.length).find? (falseB b)with
  |some x=>
    rw[hf]at h1
    simp only[optQ,fewQ,fewF,es_nil,Int.natCast_zero]at h1⊢
    simp (maxSteps:=6000000) (disch:=first|omega|assumption|decide +kernel|(simp;done)|(simp;omega)|fail) [hk2,h1,n2]
  |none=>
    rw[hf]at h1
    simp only[optQ,fewF,es_nil,Int.natCast_zero]at h1⊢
    simp (maxSteps:=6000000) (disch:=first|omega|assumption|decide +kernel|(simp;done)|(simp;omega)|fail) [hk2,h1,n2,wk k (by omega)]
 ·intro a x q h
  unfold findL at h
  cases hf:List.find? (falseB b) (listsP x [] b.trap.words.length)with
  |some y=>rw[hf]at h;simp only[optQ,Sum.inr.injEq]at h;rw[←h];simp[fewQ]
  |none=>rw[hf]at h;simp[optQ]at h
 ·intro a
  rw[hN]
  simp[fewF,n2]
set_option maxHeartbeats 4000000 in
theorem e_fewest(b:WBook)(hB:bookB b=true)(hc:CopyB b)(hne:storiesL b≠[])(st:V)(d l:Nat)(s:Stk)(hd:d<s.length)(h:sget s d l=some (.cell (vK b st)))(lab):
 den T 78 [.ptr d l 0] lab s=some (.sl .no 1 (es cInt (blameL b)),s):=by
 have hw8:b.trap.words.length≤8:=by
  have:=bookB_trap hB
  simp only[trapB,Bool.and_eq_true,decide_eq_true_eq]at this
  exact this.2.2.2.1
 have n2: ¬d=s.length:=by omega
 have hl:=e_few_l b hB hc st d l s hd h
 have h1:=fun lab=>e_find_ok b hB hc st s.length d l b.trap.words.length [] (by simp;omega) (by simp) (fewF b s.length d l::s) (by have:=fewF_ok b st d l s hd h [];rwa [List.append_nil]at this) lab
 rw[show fromOf []=0 from rfl]at h1
 have hsp:=(blame_spec (bookB_ok hB) hne).2.1
 have ebl:=blameL_at (b:=b) hw8
 unfold findQ at h1
 rw[full_at b.trap.words.length (by omega),show(List.range b.trap.words.length).map (fun(k:Nat)=>(k:Int))=fullW b from rfl]at h1
 cases hf:((List.range b.trap.words.length).flatMap fun m=>listsP m [] b.trap.words.length).find? (falseB b)with
 |some x=>
   rw[hf]at hl ebl
   rw[Option.getD_some]at ebl
   rw[ebl]
   simp only[optQ,fewQ,fewF]at hl
   rw[den_fn t78 _ _ _ rfl]
   simp only[b78]
   simp (maxSteps:=6000000) (disch:=first|omega|assumption|decide +kernel|(simp;done)|(simp;omega)|fail) [h,n2,hl]
 |none=>
   rw[hf]at hl ebl
   rw[Option.getD_none]at ebl
   rw[ebl]at hsp⊢
   rw[List.find?_cons,hsp]at h1
   simp only[optQ,fewF,es_nil,Int.natCast_zero]at hl h1
   generalize fullW b=W at*
   rw[den_fn t78 _ _ _ rfl]
   simp only[b78]
   simp (maxSteps:=6000000) (disch:=first|omega|assumption|decide +kernel|(simp;done)|(simp;omega)|fail) [h,n2,hl,h1]
set_option maxHeartbeats 4000000 in
theorem e_BlameW(b:WBook)(hc:CopyB b)(lab s):den T 22 [.agg (vB b)] lab s=some (.tup [.sl .no 1 (es cInt (if open11 b true=0 then blameL b else [])),i64 (open11 b true)],s):=by
 by_cases h:open11 b true=0
 ·have h2:=fun(F:Ab.Loc) lab k0=>e_told b hc true h F s lab k0
  obtain⟨hB,_,hne⟩:=open11_ok h
  have h3:=fun(F:Ab.Loc) (hF:F.get 128=some (.cell (vK b (stG b)))) lab=>e_fewest b hB hc hne (stG b) s.length 128 (F::s) (by simp) (by simp[hF]) lab
  rw[if_pos h,h]
  unfold stG at h2 h3
  generalize blameL b=M at*
  generalize sortG b=G at*
  rw[den_fn t22 _ _ _ rfl]
  simp only[b22]
  simp (maxSteps:=6000000) (disch:=first|omega|assumption|decide +kernel|(simp;done)|(simp;omega)|fail) [h2,h3]
 ·have h1:=fun lab s=>e_told_no b hc true h lab s
  rw[if_neg h]
  rw[den_fn t22 _ _ _ rfl]
  simp only[b22]
  simp (maxSteps:=6000000) (disch:=first|omega|assumption|decide +kernel|(simp;done)|(simp;omega)|fail) [h1,h]
end Go.Proofs.YthghcainodgnkaaGreat

/-
  Watch, laws: copies, equal books (not built yet).
-/
namespace Go.Proofs.YthghcainodgnkaaGreat
open Go.Ab
set_option maxHeartbeats 4000000 in
theorem e_Copy11(b:WBook)(hc:CopyB b)(lab s):den T 28 [.agg (vB b)] lab s=some (.agg (vB b),s):=by
 obtain⟨h1,h2,h3⟩:=hc.trap
 have hs:=hc.trap.short
 have hso:=hc.sober
 by_cases hw:b.trap.words=[]
 ·have hC:=fun(loc:Ab.Loc) lab k0=>e_Copy01_0 b.trap hs h1 h3 hw loc s lab k0
  by_cases h0:b.sober=[]
  ·rw[den_fn t28 _ _ _ rfl]
   simp only[b28]
   simp (maxSteps:=6000000) (disch:=first|omega|assumption|decide +kernel|(simp;done)|(simp;omega)|fail) [run_drawnK,orSlow_none,hC,h0,appD_full_nil]
   try simp[hw]
  ·have hne:es cInt b.sober≠[]:=by simpa using h0
   rw[den_fn t28 _ _ _ rfl]
   simp only[b28]
   simp (maxSteps:=6000000) (disch:=first|omega|assumption|decide +kernel|(simp;done)|(simp;omega)|fail) [run_drawnK,orSlow_none,hC,hne,appD_full]
   try simp[hw]
 ·have hC:=fun(loc:Ab.Loc) lab k0 k1=>e_Copy01_1 b.trap hs h1 h2 h3 hw loc s lab k0 k1
  by_cases h0:b.sober=[]
  ·rw[den_fn t28 _ _ _ rfl]
   simp only[b28]
   simp (maxSteps:=6000000) (disch:=first|omega|assumption|decide +kernel|(simp;done)|(simp;omega)|fail) [run_drawnK,orSlow_none,hC,h0,appD_full_nil]
  ·have hne:es cInt b.sober≠[]:=by simpa using h0
   rw[den_fn t28 _ _ _ rfl]
   simp only[b28]
   simp (maxSteps:=6000000) (disch:=first|omega|assumption|decide +kernel|(simp;done)|(simp;omega)|fail) [run_drawnK,orSlow_none,hC,hne,appD_full]
end Go.Proofs.YthghcainodgnkaaGreat

/-
  Watch, laws: equal books (not built yet).
-/
namespace Go.Proofs.YthghcainodgnkaaGreat
open Go.Ab
set_option maxHeartbeats 2000000 in
theorem e_Same01_l0(t:CTrap)(hs:ShortT t)(s:Stk):
 Run T b87l0 [(2, .ptr s.length 32 0),(3, .ptr s.length 48 0),(5,i64 0)] ([(32, .cell (vT t)),(48, .cell (vT t))]::s)=some (.exit 0,[(2, .ptr s.length 32 0),(3, .ptr s.length 48 0),(5,i64 ((t.opn).length:Nat)),(41, .bool false)],[(32, .cell (vT t)),(48, .cell (vT t))]::s):=by
 have key:=loop_fold (T:=T) (live:=[2,3,5]) (keep:=[32,48]) (b:=d87l0) (t.opn) (fun _ _=>True) (fun _ _=>()) (fun k (a:Unit)=>[(2, .ptr s.length 32 0),(3, .ptr s.length 48 0),(5,i64 (k:Nat))]) (fun k (a:Unit)=>[(32, .cell (vT t)),(48, .cell (vT t))]::s) (fun(a:Unit)=>(.exit 0,[(2, .ptr s.length 32 0),(3, .ptr s.length 48 0),(5,i64 ((t.opn).length:Nat)),(41, .bool false)],[(32, .cell (vT t)),(48, .cell (vT t))]::s)) (by simp) ?_ ?_ ?_ () (by simp) [(2, .ptr s.length 32 0),(3, .ptr s.length 48 0),(5,i64 0)] ([(32, .cell (vT t)),(48, .cell (vT t))]::s) (by simp) (by simp)
 ·exact key
 ·intro k a hk hi
  have ho:=hs.opn
  have hk2:(k:Int)<t.opn.length:=by omega
  have hx:=hs.each _ (List.getElem_mem hk)
  have h1:=fun lab s=>e_Same2 t.opn[k] t.opn[k] hx hx lab s
  rw[decide_eq_true rfl]at h1
  generalize hR:t.opn[k]=R at*
  simp (maxSteps:=1000000) (disch:=first|omega|assumption|decide +kernel|(simp;done)|(simp;omega)|fail) [run_drawnK,orSlow_none,hk,hk2,hR,h1,-e_Same2,wk k (by omega)]
 ·intro k a hk hi
  try simp
 ·intro a hi
  simp
set_option maxHeartbeats 2000000 in
theorem e_Same01_l1(t:CTrap)(hs:ShortT t)(s:Stk):
 Run T b87l1 [(2, .ptr s.length 32 0),(3, .ptr s.length 48 0),(6,i64 0)] ([(32, .cell (vT t)),(48, .cell (vT t))]::s)=some (.exit 2,[(2, .ptr s.length 32 0),(3, .ptr s.length 48 0),(6,i64 ((t.words).length:Nat)),(60, .bool false)],[(32, .cell (vT t)),(48, .cell (vT t))]::s):=by
 have key:=loop_fold (T:=T) (live:=[2,3,6]) (keep:=[32,48,864]) (b:=d87l1) (t.words) (fun _ _=>True) (fun _ _=>()) (fun k (a:Unit)=>[(2, .ptr s.length 32 0),(3, .ptr s.length 48 0),(6,i64 (k:Nat))]) (fun k (a:Unit)=>[(32, .cell (vT t)),(48, .cell (vT t))]::s) (fun(a:Unit)=>(.exit 2,[(2, .ptr s.length 32 0),(3, .ptr s.length 48 0),(6,i64 ((t.words).length:Nat)),(60, .bool false)],[(32, .cell (vT t)),(48, .cell (vT t))]::s)) (by simp) ?_ ?_ ?_ () (by simp) [(2, .ptr s.length 32 0),(3, .ptr s.length 48 0),(6,i64 0)] ([(32, .cell (vT t)),(48, .cell (vT t))]::s) (by simp) (by simp)
 ·exact key
 ·intro k a hk hi
  have ho:=hs.words
  have hk2:(k:Int)<t.words.length:=by omega
  generalize hR:t.words[k]=R at*
  simp (maxSteps:=1000000) (disch:=first|omega|assumption|decide +kernel|(simp;done)|(simp;omega)|fail) [run_drawnK,orSlow_none,hk,hk2,hR,eqCells,wk k (by omega)]
 ·intro k a hk hi
  try simp
 ·intro a hi
  simp
theorem e_Same01(t:CTrap)(hs:ShortT t)(lab s):den T 87 [.agg (vT t), .agg (vT t)] lab s=some (.bool true,s):=by
 have h0:=e_Same01_l0 t hs s
 have h1:=e_Same01_l1 t hs s
 rw[den_fn t87 _ _ _ rfl]
 simp only[b87]
 simp (maxSteps:=6000000) (disch:=first|omega|assumption|decide +kernel|(simp;done)|(simp;omega)|fail) [h0,h1]
theorem e_Same11(b:WBook)(hc:CopyB b)(lab s):den T 35 [.agg (vB b), .agg (vB b)] lab s=some (.bool true,s):=by
 have h1:=fun lab s=>e_Same01 b.trap hc.trap.short lab s
 have h2:=fun lab s=>e_Same2 b.sober b.sober (by have:=hc.sober;omega) (by have:=hc.sober;omega) lab s
 rw[decide_eq_true rfl]at h2
 rw[den_fn t35 _ _ _ rfl]
 simp only[b35]
 simp (maxSteps:=6000000) (disch:=first|omega|assumption|decide +kernel|(simp;done)|(simp;omega)|fail) [h1,h2,-e_Same2]
end Go.Proofs.YthghcainodgnkaaGreat

/-
  Watch, laws: Huge, Far, ready (not built yet).
-/
namespace Go.Proofs.YthghcainodgnkaaGreat
open Go.Ab
structure ShortB(b:WBook):Prop where
 trap:ShortT b.trap
 sober:b.sober.length<4611686018427387904
def hugeL(l:List (List Int)):Bool:=decide (40<l.length)|| !allB (fun r=>decide (r.length≤40)) l
def hugeT(t:CTrap):Bool:=hugeL t.opn||decide (40<t.words.length)
def hugeK(b:WBook):Bool:=hugeT b.trap||decide (40<b.sober.length)
theorem e_huge_l(l:List (List Int))(hl:l.length≤40)(s:Stk)(he: ∀r,r∈l→r.length<4611686018427387904):
 Run T b132l0 [(0, .sl .no 1 (es cInts l)),(3,i64 0)] ([]::s)=
  if allB (fun r=>decide (r.length≤40)) l=true then some (.exit 0,[(0, .sl .no 1 (es cInts l)),(3,i64 l.length),(10, .bool false)],[]::s)else some (.ret,[(2, .bool true)],[]::s):=by
 refine loop_all l (fun r=>decide (r.length≤40)) (fun k=>[(0, .sl .no 1 (es cInts l)),(3,i64 k)]) (fun _=>[]::s) _ _ (by simp) (by simp) ?_ (by simp) _ _ (by simp) (by simp)
 intro k hk
 have hk2:(k:Int)<l.length:=by omega
 generalize hR:l[k]=R at*
 by_cases h:R.length≤40
 ·have h2: ¬(40:Int)<R.length:=by omega
  simp (maxSteps:=1000000) (disch:=first|omega|assumption|decide +kernel|(simp;done)|(simp;omega)|fail) [hk,hk2,hR,h,h2,wk k (by omega)]
 ·have h2:(40:Int)<R.length:=by omega
  simp (maxSteps:=1000000) (disch:=first|omega|assumption|decide +kernel|(simp;done)|(simp;omega)|fail) [hk,hk2,hR,h,h2,wk k (by omega)]
theorem e_huge(l:List (List Int))(hl:l.length<4611686018427387904)(he: ∀r,r∈l→r.length<4611686018427387904)(lab s):den T 132 [.sl .no 1 (es cInts l)] lab s=some (.bool (hugeL l),s):=by
 unfold hugeL
 rw[den_fn t132 _ _ _ rfl]
 simp only[b132]
 by_cases h:40<l.length
 ·have h2:(40:Int)<l.length:=by omega
  simp (maxSteps:=1000000) (disch:=first|omega|assumption|decide +kernel|(simp;done)|(simp;omega)|fail) [h,h2]
 ·have h2: ¬(40:Int)<l.length:=by omega
  have h1:=e_huge_l l (by omega) s he
  cases ha:allB (fun r=>decide (r.length≤40)) l
  ·rw[ha,if_neg (by simp)]at h1
   simp (maxSteps:=1000000) (disch:=first|omega|assumption|decide +kernel|(simp;done)|(simp;omega)|fail) [h,h2,h1]
  ·rw[ha,if_pos rfl]at h1
   simp (maxSteps:=1000000) (disch:=first|omega|assumption|decide +kernel|(simp;done)|(simp;omega)|fail) [h,h2,h1]
theorem e_Huge01(t:CTrap)(hs:ShortT t)(lab s):den T 88 [.agg (vT t)] lab s=some (.bool (hugeT t),s):=by
 have h1:=fun lab s=>e_huge t.opn hs.opn hs.each lab s
 have hw:=hs.words
 unfold hugeT
 rw[den_fn t88 _ _ _ rfl]
 simp only[b88]
 cases c:hugeL t.opn
 ·by_cases h:40<t.words.length
  ·have h2:(40:Int)<t.words.length:=by omega
   simp (maxSteps:=1000000) (disch:=first|omega|assumption|decide +kernel|(simp;done)|(simp;omega)|fail) [h1,c,h,h2]
  ·have h2: ¬(40:Int)<t.words.length:=by omega
   simp (maxSteps:=1000000) (disch:=first|omega|assumption|decide +kernel|(simp;done)|(simp;omega)|fail) [h1,c,h,h2]
 ·simp (maxSteps:=1000000) (disch:=first|omega|assumption|decide +kernel|(simp;done)|(simp;omega)|fail) [h1,c]
theorem e_Huge11(b:WBook)(hs:ShortB b)(lab s):den T 36 [.agg (vB b)] lab s=some (.bool (hugeK b),s):=by
 have h1:=fun lab s=>e_Huge01 b.trap hs.trap lab s
 have hw:=hs.sober
 unfold hugeK
 rw[den_fn t36 _ _ _ rfl]
 simp only[b36]
 cases c:hugeT b.trap
 ·by_cases h:40<b.sober.length
  ·have h2:(40:Int)<b.sober.length:=by omega
   simp (maxSteps:=1000000) (disch:=first|omega|assumption|decide +kernel|(simp;done)|(simp;omega)|fail) [h1,c,h,h2]
  ·have h2: ¬(40:Int)<b.sober.length:=by omega
   simp (maxSteps:=1000000) (disch:=first|omega|assumption|decide +kernel|(simp;done)|(simp;omega)|fail) [h1,c,h,h2]
 ·simp (maxSteps:=1000000) (disch:=first|omega|assumption|decide +kernel|(simp;done)|(simp;omega)|fail) [h1,c]
theorem hugeK_copy {b:WBook}(h:hugeK b=false):CopyB b:=by
 simp only[hugeK,hugeT,hugeL,Bool.or_eq_false_iff,decide_eq_false_iff_not,Bool.not_eq_false',allB_iff,decide_eq_true_eq]at h
 obtain⟨⟨⟨h1,h2⟩,h3⟩,h4⟩:=h
 exact⟨⟨by omega,by omega,fun l hl=>by have:=h2 l hl;omega⟩,by omega⟩
def farB(b:WBook):Bool:=hugeK b||((decide (3<b.trap.chambers)||decide (4<b.trap.times))&&bookB b)
theorem e_Far(b:WBook)(hs:ShortB b)(lab s):den T 27 [.agg (vB b)] lab s=some (.bool (farB b),s):=by
 have h1:=fun lab s=>e_Huge11 b hs lab s
 unfold farB
 cases c:hugeK b
 ·have h2:=fun lab s=>e_Check11 b (hugeK_copy c) lab s
  rw[den_fn t27 _ _ _ rfl]
  simp only[b27]
  by_cases q1:3<b.trap.chambers
  ·cases q:bookB b<;>simp (maxSteps:=1000000) (disch:=first|omega|assumption|decide +kernel|(simp;done)|(simp;omega)|fail) [h1,h2,c,q1,q]
  ·by_cases q2:4<b.trap.times
   ·cases q:bookB b<;>simp (maxSteps:=1000000) (disch:=first|omega|assumption|decide +kernel|(simp;done)|(simp;omega)|fail) [h1,h2,c,q1,q2,q]
   ·simp (maxSteps:=1000000) (disch:=first|omega|assumption|decide +kernel|(simp;done)|(simp;omega)|fail) [h1,h2,c,q1,q2]
 ·rw[den_fn t27 _ _ _ rfl]
  simp only[b27]
  simp (maxSteps:=1000000) (disch:=first|omega|assumption|decide +kernel|(simp;done)|(simp;omega)|fail) [h1,c]
theorem farB_copy {b:WBook}(h:farB b=false):CopyB b:=by
 unfold farB at h
 exact hugeK_copy (by rw[Bool.or_eq_false_iff]at h;exact h.1)
end Go.Proofs.YthghcainodgnkaaGreat

/-
  What the arguments of the laws of watch read as.
-/
namespace Go.Proofs.YthghcainodgnkaaGreat
open Go.Ab
set_option maxRecDepth 100000
theorem cells57:Tryz.prog.cellsOf 57=4:=by kernel_rfl
theorem cells3:Tryz.prog.cellsOf 3=1:=by kernel_rfl
theorem cells26:Tryz.prog.cellsOf 26=1:=by kernel_rfl
variable {B : TypeId → Nat → Prop} {n : Nat} {vs : List V}
theorem fit_int(h:Fit Tryz.prog B (n+1) 3 vs): ∃x,vs=[i64 x]:=by
 simp only[Fit,Tryz.underlying3]at h
 exact h
theorem es_all {α:Type} {f:α→List V}(l:List (List V))(h: ∀x∈l,∃y,x=f y): ∃l':List α,l=es f l':=by
 obtain⟨l',h1,_⟩:=es_of (Q:=fun _=>True) l fun x hx=>by obtain⟨y,hy⟩:=h x hx;exact⟨y,hy,trivial⟩
 exact⟨l',h1⟩
theorem fit_ints(h:Fit Tryz.prog B (n+2) 26 vs): ∃l:List Int,vs=[.sl .no 1 (es cInt l)]∧B 3 l.length:=by
 rw[Fit,Tryz.underlying26]at h
 simp only at h
 obtain⟨l,rfl,hb,h⟩:=h
 obtain⟨l',rfl⟩:=es_all (f:=cInt) l fun x hx=>by obtain⟨y,hy⟩:=fit_int (h x hx);exact⟨y,hy⟩
 rw[cells3]
 exact⟨l',rfl,by simpa using hb⟩
theorem fit_lists(h:Fit Tryz.prog B (n+3) 22 vs): ∃l:List (List Int),vs=[.sl .no 1 (es cInts l)]∧B 26 l.length∧ ∀x,x∈l→B 3 x.length:=by
 rw[Fit,Tryz.underlying22]at h
 simp only at h
 obtain⟨l,rfl,hb,h⟩:=h
 obtain⟨l',h1,h2⟩:=es_of (f:=cInts) (Q:=fun x=>B 3 x.length) l fun x hx=>by obtain⟨y,hy,hy2⟩:=fit_ints (h x hx);exact⟨y,hy,hy2⟩
 subst h1
 rw[cells26]
 exact⟨l',rfl,by simpa using hb,h2⟩
theorem fit_cword(h:Fit Tryz.prog B (n+2) 57 vs): ∃x:CWord,vs=cWord x:=by
 rw[Fit,Tryz.underlying57]at h
 simp only[FitF]at h
 obtain⟨_,_,rfl,h0,_,_,rfl,h1,_,_,rfl,h2,_,_,rfl,h3,rfl⟩:=h
 obtain⟨a,rfl⟩:=fit_int h0
 obtain⟨b,rfl⟩:=fit_int h1
 obtain⟨c,rfl⟩:=fit_int h2
 obtain⟨d,rfl⟩:=fit_int h3
 exact⟨⟨a,b,c,d⟩,rfl⟩
theorem fit_words(h:Fit Tryz.prog B (n+3) 23 vs): ∃l:List CWord,vs=[.sl .no 4 (es cWord l)]∧B 57 l.length:=by
 rw[Fit,Tryz.underlying23]at h
 simp only at h
 obtain⟨l,rfl,hb,h⟩:=h
 obtain⟨l',rfl⟩:=es_all (f:=cWord) l fun x hx=>fit_cword (h x hx)
 rw[cells57]
 exact⟨l',rfl,by simpa using hb⟩
def Reach(e:TypeId)(k:Nat):Prop:=k≤maxLen∧k*Tryz.prog.bytesOf e≤reachBytes
theorem bytes57:Tryz.prog.bytesOf 57=32:=by kernel_rfl
theorem bytes3:Tryz.prog.bytesOf 3=8:=by kernel_rfl
theorem bytes26:Tryz.prog.bytesOf 26=24:=by kernel_rfl
theorem reach_ints {k:Nat}(h:Reach 3 k):k<4611686018427387904:=by
 simp only[Reach,bytes3,reachBytes]at h;omega
theorem reach_lists {k:Nat}(h:Reach 26 k):k<4611686018427387904:=by
 simp only[Reach,bytes26,reachBytes]at h;omega
theorem reach_words {k:Nat}(h:Reach 57 k):k<4611686018427387904:=by
 simp only[Reach,bytes57,reachBytes]at h;omega
theorem fit_trap(h:Fit Tryz.prog Reach (n+4) 25 vs): ∃t:CTrap,vs=vT t∧ShortT t:=by
 rw[Fit,Tryz.underlying25]at h
 simp only[FitF]at h
 obtain⟨_,_,rfl,h0,_,_,rfl,h1,_,_,rfl,h2,_,_,rfl,h3,rfl⟩:=h
 obtain⟨a,rfl⟩:=fit_int h0
 obtain⟨b,rfl⟩:=fit_int h1
 obtain⟨c,rfl,q1,q2⟩:=fit_lists h2
 obtain⟨d,rfl,q3⟩:=fit_words h3
 exact⟨⟨a,b,c,d⟩,rfl,reach_lists q1,reach_words q3,fun l hl=>reach_ints (q2 l hl)⟩
theorem fit_book(h:Fit Tryz.prog Reach (n+5) 28 vs): ∃b:WBook,vs=vB b∧ShortB b:=by
 rw[Fit,Tryz.underlying28]at h
 simp only[FitF]at h
 obtain⟨_,_,rfl,h0,_,_,rfl,h1,_,_,rfl,h2,_,_,rfl,h3,rfl⟩:=h
 obtain⟨t,rfl,q1⟩:=fit_trap h0
 obtain⟨a,rfl⟩:=fit_int h1
 obtain⟨c,rfl⟩:=fit_int h2
 obtain⟨d,rfl,q3⟩:=fit_ints h3
 exact⟨⟨t,a,c,d⟩,rfl,q1,reach_ints q3⟩
end Go.Proofs.YthghcainodgnkaaGreat

/-
  Watch, laws: the examples, works (not built yet).
-/
namespace Go.Proofs.YthghcainodgnkaaGreat
open Go.Ab
theorem e_word11(a b c d:Int)(lab s):den T 117 [i64 a,i64 b,i64 c,i64 d] lab s=some (.agg [i64 a,i64 b,i64 c,i64 d],s):=by
 rw[den_fn t117 _ _ _ rfl]
 simp only[b117]
 simp (maxSteps:=1000000) (disch:=first|omega|assumption|decide +kernel|(simp;done)|(simp;omega)|fail) []
theorem exB_copy:CopyB exB:=hugeK_copy (by decide)
theorem exC_copy:CopyB exC:=hugeK_copy (by decide)
theorem exB_ok:bookB exB=true:=by decide +kernel
theorem exC_ok:bookB exC=true:=by decide +kernel
theorem exB_mid:Mid exB.trap:=trapB_mid (bookB_trap exB_ok)
set_option maxHeartbeats 2000000 in
theorem e_Example11(lab s):den T 73 [] lab s=some (.tup [.agg (vB exB), .agg (vB exC)],s):=by
 have hC:=fun lab s=>e_Copy11 exB exB_copy lab s
 simp only[vB,exB,exC,es,List.map_cons,List.map_nil,cInts_eq,cInts,cInt,cWord]at hC⊢
 rw[den_fn t73 _ _ _ rfl]
 simp only[b73]
 simp (maxSteps:=6000000) (disch:=first|omega|assumption|decide +kernel|(simp;done)|(simp;omega)|fail) [run_drawnK,orSlow_none,e_word11,hC]
set_option maxHeartbeats 4000000 in
@[simp] theorem e_works11(lab s):den T 17 [] lab s=some (.bool true,s):=by
 have o1:open11 exB true=0:=by unfold open11 ask11;rw[exB_ok];simp[ex_someB]
 have h1:=fun lab s=>e_StoriesW exC exC_copy lab s
 have h2:=fun lab s=>e_LeastW exB exB_copy lab s
 have h3:=fun lab s=>e_MustW exB exB_copy lab s
 have h4:=fun lab s=>e_LiesW exB exB_copy 2 lab s
 have h5:=fun lab s=>e_FishW exB exB_copy exB_mid 1 0 lab s
 have h6:=fun lab s=>e_BlameW exB exB_copy lab s
 have h7:=fun lab s=>e_Example11 lab s
 have e4:liesV11 exB 2=(2,0):=by
  have:wiB 2 0 ((exB.trap.words.length:Int)-1)=true:=by decide
  unfold liesV11;rw[this,o1,if_pos rfl,ex_liesB]
 have e5:fishV11 exB 1 0=(⟨2,9⟩,0):=by
  have:placeB exB.trap 1 0=true:=by decide
  unfold fishV11;rw[this,o1,if_pos rfl]
  exact congrArg (fun x=>(x,(0:Int))) ex_spanB
 rw[exC_ok,if_pos rfl,if_pos rfl,ex_storiesC]at h1
 rw[o1,if_pos rfl,ex_storiesB]at h2
 rw[o1,if_pos rfl,ex_mustB]at h3
 rw[o1,if_pos rfl,ex_blameB]at h6
 rw[e4]at h4
 rw[e5]at h5
 have s1: ∀(F:Ab.Loc) lab,den T 34 [.sl .no 1 (es cInt [0,3]), .sl .no 1 [[i64 0],[i64 3]]] lab (F::s)=some (.bool true,F::s):=fun F lab=>(e_Same2 [0,3] [0,3] (by decide) (by decide) lab (F::s)).trans rfl
 have s2: ∀(F:Ab.Loc) lab,den T 34 [.sl .no 1 (es cInt [3]), .sl .no 1 [[i64 3]]] lab (F::s)=some (.bool true,F::s):=fun F lab=>(e_Same2 [3] [3] (by decide) (by decide) lab (F::s)).trans rfl
 generalize exB=B at*
 generalize exC=C at*
 generalize ([0,3]:List Int)=L03 at*
 generalize ([3]:List Int)=L3 at*
 rw[den_fn t17 _ _ _ rfl]
 simp only[b17]
 simp (maxSteps:=6000000) (disch:=first|omega|assumption|decide +kernel|(simp;done)|(simp;omega)|fail) [run_drawnK,orSlow_none,h1,h2,h3,h4,h5,h6,h7,s1,s2,-e_Same2,eqCells]
end Go.Proofs.YthghcainodgnkaaGreat

/-
  Watch, laws: small helpers (not built yet).
-/
namespace Go.Proofs.YthghcainodgnkaaGreat
open Go.Ab
end Go.Proofs.YthghcainodgnkaaGreat

/-
  Watch: WatchGood (not built yet).
-/
namespace Go.Proofs.YthghcainodgnkaaGreat
open Go.Ab
end Go.Proofs.YthghcainodgnkaaGreat

/-
  Watch, laws: books that are not valid, of any numbers (not built yet).
-/
namespace Go.Proofs.YthghcainodgnkaaGreat
open Go.Ab
theorem x_isTimeW(b:WBook)(i:Int)(lab s):den T 99 [.agg (vB b),i64 i] lab s=some (.bool (wiB i 0 (IntKind.i64.wrap (b.trap.times-1))),s):=by
 rw[den_fn t99 _ _ _ rfl]
 simp only[b99]
 generalize hm:IntKind.i64.wrap (b.trap.times-1)=m
 simp (disch:=first|omega|assumption|decide +kernel|(simp;done)|(simp;omega)|fail) [hm]
theorem x_isTime01(t:CTrap)(i:Int)(lab s):den T 111 [.agg (vT t),i64 i] lab s=some (.bool (wiB i 0 (IntKind.i64.wrap (t.times-1))),s):=by
 rw[den_fn t111 _ _ _ rfl]
 simp only[b111]
 generalize hm:IntKind.i64.wrap (t.times-1)=m
 simp (disch:=first|omega|assumption|decide +kernel|(simp;done)|(simp;omega)|fail) [hm]
theorem x_isChamber01(t:CTrap)(i:Int)(lab s):den T 103 [.agg (vT t),i64 i] lab s=some (.bool (wiB i 0 (IntKind.i64.wrap (t.chambers-1))),s):=by
 rw[den_fn t103 _ _ _ rfl]
 simp only[b103]
 generalize hm:IntKind.i64.wrap (t.chambers-1)=m
 simp (disch:=first|omega|assumption|decide +kernel|(simp;done)|(simp;omega)|fail) [hm]
theorem x_IsTime11(b:WBook)(i:Int)(lab s):den T 60 [.agg (vB b),i64 i] lab s=some (.bool (wiB i 0 (IntKind.i64.wrap (b.trap.times-1))),s):=by
 have h:=fun lab s=>x_isTime01 b.trap i lab s
 generalize wiB i 0 (IntKind.i64.wrap (b.trap.times-1))=m at*
 rw[den_fn t60 _ _ _ rfl]
 simp only[b60]
 simp (disch:=first|omega|assumption|decide +kernel|(simp;done)|(simp;omega)|fail) [h]
theorem x_open(b:WBook)(hB:bookB b=false)(is:Bool):open11 b is=110:=by unfold open11 ask11;rw[hB];rfl
section
variable (b : WBook) (hc : CopyB b) (hB : bookB b = false)
include hc hB
theorem x_told(is:Bool)(lab s):den T 76 [.agg (vB b), .bool is] lab s=some (.tup [.nilp,i64 110],s):=by
 have:=e_told_no b hc is (by rw[x_open b hB];decide) lab s
 rwa [x_open b hB]at this
theorem x_known(is:Bool)(lab s):den T 84 [.agg (vB b), .bool is] lab s=some (.tup [.sl .no 1 [],i64 110],s):=by
 have:=e_known11 b hc is lab s
 rw[x_open b hB,if_neg (by decide)]at this
 exact this
theorem x_Fish(i c:Int)(lab s):den T 48 [.agg (vB b),i64 i,i64 c] lab s=some (.tup [.agg [i64 0,i64 0],i64 110],s):=by
 have h1:=fun lab s=>x_isTimeW b i lab s
 have h2:=fun is lab s=>x_told b hc hB is lab s
 generalize hm:wiB i 0 (IntKind.i64.wrap (b.trap.times-1))=m at*
 generalize hq:IntKind.i64.wrap (b.trap.chambers-1)=q at*
 cases m
 ·rw[den_fn t48 _ _ _ rfl]
  simp only[b48]
  simp (maxSteps:=6000000) (disch:=first|omega|assumption|decide +kernel|(simp;done)|(simp;omega)|fail) [run_drawnK,orSlow_none,h1,h2,hq]
 ·rw[den_fn t48 _ _ _ rfl]
  simp only[b48]
  simp (maxSteps:=6000000) (disch:=first|omega|assumption|decide +kernel|(simp;done)|(simp;omega)|fail) [run_drawnK,orSlow_none,h1,h2,hq]
theorem x_Fish11(i c:Int)(lab s):den T 52 [.agg (vB b),i64 i,i64 c] lab s=some (.tup [.agg [i64 0,i64 0],i64 110],s):=by
 have h1:=fun lab s=>x_IsTime11 b i lab s
 have h3:=fun lab s=>x_isChamber01 b.trap c lab s
 have h2:=fun is lab s=>x_known b hc hB is lab s
 generalize hm:wiB i 0 (IntKind.i64.wrap (b.trap.times-1))=m at*
 generalize wiB c 0 (IntKind.i64.wrap (b.trap.chambers-1))=q at*
 cases m
 ·rw[den_fn t52 _ _ _ rfl]
  simp only[b52]
  simp (maxSteps:=6000000) (disch:=first|omega|assumption|decide +kernel|(simp;done)|(simp;omega)|fail) [run_drawnK,orSlow_none,h1,h2]
 ·rw[den_fn t52 _ _ _ rfl]
  simp only[b52]
  simp (maxSteps:=6000000) (disch:=first|omega|assumption|decide +kernel|(simp;done)|(simp;omega)|fail) [run_drawnK,orSlow_none,h1,h2,h3]
theorem x_Came(i j:Int)(lab s):den T 53 [.agg (vB b),i64 i,i64 j] lab s=some (.tup [.agg [i64 0,i64 0],i64 110],s):=by
 have h1:=fun n lab s=>x_isTimeW b n lab s
 have h2:=fun is lab s=>x_told b hc hB is lab s
 generalize IntKind.i64.wrap (b.trap.times-1)=q at*
 cases m:wiB i 0 q
 ·rw[den_fn t53 _ _ _ rfl]
  simp only[b53]
  simp (maxSteps:=6000000) (disch:=first|omega|assumption|decide +kernel|(simp;done)|(simp;omega)|fail) [run_drawnK,orSlow_none,h1,h2,m]
 ·cases m2:wiB j 0 q
  ·rw[den_fn t53 _ _ _ rfl]
   simp only[b53]
   simp (maxSteps:=6000000) (disch:=first|omega|assumption|decide +kernel|(simp;done)|(simp;omega)|fail) [run_drawnK,orSlow_none,h1,h2,m,m2]
  ·by_cases m3:i≤j
   ·rw[den_fn t53 _ _ _ rfl]
    simp only[b53]
    simp (maxSteps:=6000000) (disch:=first|omega|assumption|decide +kernel|(simp;done)|(simp;omega)|fail) [run_drawnK,orSlow_none,h1,h2,m,m2,m3]
   ·rw[den_fn t53 _ _ _ rfl]
    simp only[b53]
    simp (maxSteps:=6000000) (disch:=first|omega|assumption|decide +kernel|(simp;done)|(simp;omega)|fail) [run_drawnK,orSlow_none,h1,h2,m,m2,m3]
theorem x_Came11(i j:Int)(lab s):den T 54 [.agg (vB b),i64 i,i64 j] lab s=some (.tup [.agg [i64 0,i64 0],i64 110],s):=by
 have h1:=fun n lab s=>x_IsTime11 b n lab s
 have h2:=fun is lab s=>x_known b hc hB is lab s
 generalize IntKind.i64.wrap (b.trap.times-1)=q at*
 cases m:wiB i 0 q
 ·rw[den_fn t54 _ _ _ rfl]
  simp only[b54]
  simp (maxSteps:=6000000) (disch:=first|omega|assumption|decide +kernel|(simp;done)|(simp;omega)|fail) [run_drawnK,orSlow_none,h1,h2,m]
 ·cases m2:wiB j 0 q
  ·rw[den_fn t54 _ _ _ rfl]
   simp only[b54]
   simp (maxSteps:=6000000) (disch:=first|omega|assumption|decide +kernel|(simp;done)|(simp;omega)|fail) [run_drawnK,orSlow_none,h1,h2,m,m2]
  ·by_cases m3:i≤j
   ·rw[den_fn t54 _ _ _ rfl]
    simp only[b54]
    simp (maxSteps:=6000000) (disch:=first|omega|assumption|decide +kernel|(simp;done)|(simp;omega)|fail) [run_drawnK,orSlow_none,h1,h2,m,m2,m3]
   ·rw[den_fn t54 _ _ _ rfl]
    simp only[b54]
    simp (maxSteps:=6000000) (disch:=first|omega|assumption|decide +kernel|(simp;done)|(simp;omega)|fail) [run_drawnK,orSlow_none,h1,h2,m,m2,m3]
end
end Go.Proofs.YthghcainodgnkaaGreat

/-
  Watch: WatchDrunk, WatchLies, WatchFish (not built yet).
-/
namespace Go.Proofs.YthghcainodgnkaaGreat
open Go.Ab
set_option maxHeartbeats 8000000 in
theorem e_WatchFish(b:WBook)(hs:ShortB b)(i j:Int)(lab s):den T 9 [.agg (vB b),i64 i,i64 j] lab s=some (.bool true,s):=by
 have h1:=fun lab s=>e_Far b hs lab s
 cases c1:farB b
 rotate_left
 ·rw[den_fn t9 _ _ _ rfl]
  simp only[b9]
  simp (maxSteps:=6000000) (disch:=first|omega|assumption|decide +kernel|(simp;done)|(simp;omega)|fail) [h1,c1]
 have hc:=farB_copy c1
 have h2:=fun lab s=>e_Copy11 b hc lab s
 have hD: ∃x z y:Int,(∀lab s,den T 48 [.agg (vB b),i64 i,i64 j] lab s=some (.tup [.agg [i64 x,i64 z],i64 y],s))∧ ∀lab s,den T 52 [.agg (vB b),i64 i,i64 j] lab s=some (.tup [.agg [i64 x,i64 z],i64 y],s):=by
  cases hB:bookB b
  ·exact⟨_,_,_,fun lab s=>x_Fish b hc hB i j lab s,fun lab s=>x_Fish11 b hc hB i j lab s⟩
  ·have hm:=trapB_mid (bookB_trap hB)
   exact⟨_,_,_,fun lab s=>e_FishW b hc hm i j lab s,fun lab s=>e_Fish11 b hc hm i j lab s⟩
 have hE: ∃x z y:Int,(∀lab s,den T 53 [.agg (vB b),i64 i,i64 j] lab s=some (.tup [.agg [i64 x,i64 z],i64 y],s))∧ ∀lab s,den T 54 [.agg (vB b),i64 i,i64 j] lab s=some (.tup [.agg [i64 x,i64 z],i64 y],s):=by
  cases hB:bookB b
  ·exact⟨_,_,_,fun lab s=>x_Came b hc hB i j lab s,fun lab s=>x_Came11 b hc hB i j lab s⟩
  ·have hm:=trapB_mid (bookB_trap hB)
   exact⟨_,_,_,fun lab s=>e_CameW b hc hm i j lab s,fun lab s=>e_Came11 b hc hm i j lab s⟩
 obtain⟨x,z,y,h3,h4⟩:=hD
 obtain⟨x2,z2,y2,h5,h6⟩:=hE
 have h13:=fun lab s=>e_Same11 b hc lab s
 rw[den_fn t9 _ _ _ rfl]
 simp only[b9]
 simp (maxSteps:=6000000) (disch:=first|omega|assumption|decide +kernel|(simp;done)|(simp;omega)|fail) [run_drawnK,orSlow_none,h1,c1,h2,h3,h4,h5,h6,h13,eqCells]
end Go.Proofs.YthghcainodgnkaaGreat

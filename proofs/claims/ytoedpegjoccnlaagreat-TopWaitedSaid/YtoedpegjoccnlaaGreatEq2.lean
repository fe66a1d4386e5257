/-
  Watch: the program's differences: node, limit (not built yet).
-/
import Derived.Test.YtoedpegjoccnlaaGreatEq1
set_option linter.unusedSimpArgs false
set_option linter.unusedVariables false
namespace Go.Proofs.YtoedpegjoccnlaaGreat
open Go.Ab
def trapV(t:CTrap)(B:List Int):List V:=i64 t.chambers::i64 t.times:: .sl .no 1 (es cInts t.opn):: .sl .no 4 (es cWord t.words)::B.map i64
@[simp] theorem trapV_length(t B):(trapV t B).length=B.length+4:=by simp[trapV]
@[simp] theorem trapV_0(t B)(h:0<(trapV t B).length):(trapV t B)[0]=i64 t.chambers:=rfl
@[simp] theorem trapV_1(t B)(h:1<(trapV t B).length):(trapV t B)[1]=i64 t.times:=rfl
theorem trapV_get {t:CTrap} {B:List Int} {j:Nat}(h:j<B.length):(trapV t B)[4+j]? =some (i64 (B.getD j 0)):=by
 rw[show 4+j=j+1+1+1+1 by omega]
 simp[trapV,h,List.getD]
theorem trapV_set {t:CTrap} {B:List Int} {j:Nat} {x:Int}:(trapV t B).set (4+j) (i64 x)=trapV t (B.set j x):=by
 rw[show 4+j=j+1+1+1+1 by omega]
 simp[trapV,List.map_set]
@[simp] theorem trapV_map(r:Ren)(h:r.c .no= .no)(t B):V.mapAll r (trapV t B)=trapV t B:=by
 have: ∀l:List Int,V.mapAll r (l.map i64)=l.map i64:=fun l=>by
  induction l with
  |nil=>rfl
  |cons a l ih=>simp[V.mapAll,V.map,ih]
 simp[trapV,V.mapAll,V.map,h,this]
theorem e_node(t:CTrap)(B:List Int)(h:TrapOk t)(d l:Nat)(i c:Nat)(hi:i<t.T)(hc:c≤t.C)(s:Stk)(hd:d<s.length)(hs:sget s d l=some (.cell (trapV t B)))(lab):
 den T 98 [.ptr d l 0,i64 i,i64 c] lab s=some (i64 (nodeN t.C i c:Nat),s):=by
 have h1:=h.cc
 have h2:=h.tt
 have e1:t.C=t.chambers.toNat:=rfl
 have e2:t.T=t.times.toNat:=rfl
 have hd2: ¬d=s.length:=by omega
 have b1:i*t.C≤4*4:=Nat.mul_le_mul (by omega) (by omega)
 have b2:(i:Int)*t.chambers=((i*t.C:Nat):Int):=by rw[Int.natCast_mul];congr 1;omega
 have w1:IntKind.i64.wrap ((i:Int)*t.chambers)=(i:Int)*t.chambers:=wi _ (by omega) (by omega)
 have w2:IntKind.i64.wrap (1+(i:Int)*t.chambers)=1+(i:Int)*t.chambers:=wi _ (by omega) (by omega)
 have w3:IntKind.i64.wrap (1+(i:Int)*t.chambers+c)=1+(i:Int)*t.chambers+c:=wi _ (by omega) (by omega)
 unfold nodeN
 rw[den_fn t98 _ _ _ rfl]
 simp only[b98]
 by_cases e:c=t.C
 ·have e':(c:Int)=t.chambers:=by omega
  rw[if_pos e]
  simp (maxSteps:=1000000) (disch:=first|omega|assumption|decide +kernel|(simp;done)|(simp;omega)|fail) [hs,hd2,e']
 ·have e': ¬(c:Int)=t.chambers:=by omega
  have e3:((1+i*t.C+c:Nat):Int)=1+(i:Int)*t.chambers+c:=by rw[b2];omega
  rw[if_neg e,e3]
  simp (maxSteps:=1000000) (disch:=first|omega|assumption|decide +kernel|(simp;done)|(simp;omega)|fail) [hs,hd2,e',w1,w2,w3]
theorem put_twice: ∀(F:Ab.Loc) (l:Nat) (x y:Entry),Loc.put (Loc.put F l x) l y=Loc.put F l y
 |[],l,x,y=>by simp[Loc.put]
 |(k,z)::F,l,x,y=>by
   by_cases h:l=k
   ·subst h;simp[Loc.put]
   ·simp only[Loc.put,if_neg h,put_twice F l x y]
theorem put_self: ∀(F:Ab.Loc) (l:Nat) (x:Entry),Loc.get F l=some x→Loc.put F l x=F
 |[],l,x,h=>by simp[Loc.get]at h
 |(k,z)::F,l,x,h=>by
   by_cases e:l=k
   ·subst e;simp[Loc.get]at h;subst h;simp[Loc.put]
   ·simp only[Loc.get,if_neg e]at h
    simp only[Loc.put,if_neg e,put_self F l x h]
@[simp] theorem sput_twice: ∀(s:Stk) (d l:Nat) (x y:Entry),sput (sput s d l x) d l y=sput s d l y
 |[],_,_,_,_=>rfl
 |F::s,d,l,x,y=>by
   by_cases h:d=s.length
   ·simp[sput,h,put_twice]
   ·have:=sput_twice s d l x y
    simp[sput,h,this]
theorem sput_self: ∀(s:Stk) (d l:Nat) (x:Entry),sget s d l=some x→sput s d l x=s
 |[],_,_,_,h=>by simp[sget]at h
 |F::s,d,l,x,h=>by
   by_cases e:d=s.length
   ·simp only[sget,if_pos e]at h
    simp only[sput,if_pos e,put_self F l x h]
   ·simp only[sget,if_neg e]at h
    simp only[sput,if_neg e,sput_self s d l x h]
theorem cellK_trap {t:CTrap} {B:List Int}(h:B.length=441) {i k:Nat}(hi:i<21)(hk:k<21)(S:Stk):cellK none (4+i*21+k) S (some (.cell (trapV t B)))=some (i64 (gB B i k),S):=by
 have e:=trapV_get (t:=t) (B:=B) (j:=21*i+k) (by omega)
 rw[show 4+i*21+k=4+(21*i+k)by omega,cellK_cell,part_one,e];rfl
theorem fitK_trap {t:CTrap} {B:List Int}(h:B.length=441) {i k:Nat}(hi:i<21)(hk:k<21)(S:Stk)(d l:Nat)(x:Int):fitK 1 (4+i*21+k) S d l [i64 x] (trapV t B)=some (.undef,sput S d l (.cell (trapV t (B.set (21*i+k) x)))):=by
 have e:=trapV_set (t:=t) (B:=B) (j:=21*i+k) (x:=x)
 rw[show 4+i*21+k=4+(21*i+k)by omega,fitK_eq,if_pos ⟨rfl,by simp;omega,rfl⟩]
 have:setAll (trapV t B) (4+(21*i+k)) [i64 x]=(trapV t B).set (4+(21*i+k)) (i64 x):=by simp[setAll]
 rw[this,e]
theorem LimI.mag {f t m B i k A}(h:LimI f t m B 10000000000000000 i k A)(hB:MagB B 10000000000000000)(hm: -40≤m): ∀j l,j<21→l<21→ -60000000000000200≤gB A j l∧gB A j l≤1048576:=fun j l hj hl=>by
 have h1:=h.low hB.lo (by decide) hm j l hj hl
 have h2:=h.le j l hj hl
 have h3:=hB.hi j l hj hl
 refine⟨Int.le_trans ?_ h1,by omega⟩
 split<;>split<;>omega
set_option maxHeartbeats 1000000 in
theorem e_limit_l1(t:CTrap)(f g:Nat)(hf:f<21)(hg:g<21)(m:Int)(hm: -40≤m∧m≤40)(d l:Nat)(i:Nat)(hi0:i<21)(B0 B:List Int)(hM:MagB B0 10000000000000000)(hB0:LimI f g m B0 10000000000000000 i 0 B)(s:Stk)(hd: ¬d=s.length)(hd2:d<s.length):
 Run T b124l1 [(0, .ptr d l 4),(1,i64 f),(2,i64 g),(3,i64 m),(8,i64 i),(19,i64 i),(22,i64 0)] ([]::sput s d l (.cell (trapV t B)))=some (.exit 2,[(0, .ptr d l 4),(1,i64 f),(2,i64 g),(3,i64 m),(8,i64 i),(19,i64 i),(22,i64 ((List.range 21).length:Nat)),(23, .bool false)],[]::sput s d l (.cell (trapV t ((List.range 21).foldl (limS f g m i) B)))):=by
 have key:=loop_fold (T:=T) (live:=[0,1,2,3,8,19,22]) (keep:=[]) (b:=d124l1) (List.range 21) (fun k A=>LimI f g m B0 10000000000000000 i k A) (limS f g m i) (fun k (a:List Int)=>[(0, .ptr d l 4),(1,i64 f),(2,i64 g),(3,i64 m),(8,i64 i),(19,i64 i),(22,i64 (k:Nat))]) (fun k (a:List Int)=>[]::sput s d l (.cell (trapV t a))) (fun(a:List Int)=>(.exit 2,[(0, .ptr d l 4),(1,i64 f),(2,i64 g),(3,i64 m),(8,i64 i),(19,i64 i),(22,i64 ((List.range 21).length:Nat)),(23, .bool false)],[]::sput s d l (.cell (trapV t a)))) (by simp) ?_ ?_ ?_ B (hB0) [(0, .ptr d l 4),(1,i64 f),(2,i64 g),(3,i64 m),(8,i64 i),(19,i64 i),(22,i64 0)] ([]::sput s d l (.cell (trapV t B))) (by simp[hd]) (by simp[hd])
 ·exact key
 ·intro k a hk hi
  try simp only[List.length_range]at hk
  try simp only[List.getElem_range]
  have hmag:=hi.mag hM hm.1
  have b1:=hmag i k hi0 hk
  have b2:=hmag i f hi0 hf
  have b3:=hmag g k hg hk
  have w1:IntKind.i64.wrap (gB a i f+m)=gB a i f+m:=wi _ (by omega) (by omega)
  have w2:IntKind.i64.wrap (gB a i f+m+gB a g k)=gB a i f+m+gB a g k:=wi _ (by omega) (by omega)
  have g1:=fun S=>cellK_trap (t:=t) hi.len hi0 hk S
  have g2:=fun S=>cellK_trap (t:=t) hi.len hi0 hf S
  have g3:=fun S=>cellK_trap (t:=t) hi.len hg hk S
  have g4:=fun S d l x=>fitK_trap (t:=t) hi.len hi0 hk S d l x
  have hk2:(k:Int)<21:=by omega
  have hi2:(i:Int)<21:=by omega
  have hf2:(f:Int)<21:=by omega
  have hg2:(g:Int)<21:=by omega
  have hs:=fun x=>sget_put_same s l x hd2
  unfold limS
  generalize gB a i f=y at*
  generalize gB a g k=z at*
  generalize gB a i k=x at*
  simp (maxSteps:=1000000) (disch:=first|omega|assumption|decide +kernel|(simp;done)|(simp;omega)|fail) [run_drawnK,-cellK_cell,-fitK_eq,hs,hd,g1,g2,g3,g4,w1,w2,hk2,hi2,hf2,hg2,wk k (by omega)]
 ·intro k a hk hi
  try simp only[List.length_range]at hk
  try simp only[List.getElem_range]
  exact hi.step hf hg hi0 hk
 ·intro a hi
  simp
end Go.Proofs.YtoedpegjoccnlaaGreat

/-
  Watch: limit, is, word, clash, between (not built yet).
-/
namespace Go.Proofs.YtoedpegjoccnlaaGreat
open Go.Ab
set_option maxHeartbeats 1000000 in
theorem e_limit_l0(t:CTrap)(f g:Nat)(hf:f<21)(hg:g<21)(m:Int)(hm: -40≤m∧m≤40)(d l:Nat)(B:List Int)(hM:MagB B 10000000000000000)(s:Stk)(hd: ¬d=s.length)(hd2:d<s.length):
 Run T b124l0 [(0, .ptr d l 4),(1,i64 f),(2,i64 g),(3,i64 m),(19,i64 0)] ([]::sput s d l (.cell (trapV t B)))=some (.exit 0,[(0, .ptr d l 4),(1,i64 f),(2,i64 g),(3,i64 m),(19,i64 ((List.range 21).length:Nat)),(20, .bool false)],[]::sput s d l (.cell (trapV t ((List.range 21).foldl (limRow f g m) B)))):=by
 have key:=loop_fold (T:=T) (live:=[0,1,2,3,19]) (keep:=[]) (b:=d124l0) (List.range 21) (fun k A=>LimI f g m B 10000000000000000 k 0 A) (limRow f g m) (fun k (a:List Int)=>[(0, .ptr d l 4),(1,i64 f),(2,i64 g),(3,i64 m),(19,i64 (k:Nat))]) (fun k (a:List Int)=>[]::sput s d l (.cell (trapV t a))) (fun(a:List Int)=>(.exit 0,[(0, .ptr d l 4),(1,i64 f),(2,i64 g),(3,i64 m),(19,i64 ((List.range 21).length:Nat)),(20, .bool false)],[]::sput s d l (.cell (trapV t a)))) (by simp) ?_ ?_ ?_ B (LimI.start hM.len) [(0, .ptr d l 4),(1,i64 f),(2,i64 g),(3,i64 m),(19,i64 0)] ([]::sput s d l (.cell (trapV t B))) (by simp[hd]) (by simp[hd])
 ·exact key
 ·intro k a hk hi
  try simp only[List.length_range]at hk
  try simp only[List.getElem_range]
  have h:=e_limit_l1 t f g hf hg m hm d l k hk B a hM hi s hd hd2
  rw[show(List.range 21).foldl (limS f g m k) a=limRow f g m a k from rfl]at h
  simp only[List.length_range]at h
  have hk2:(k:Int)<21:=by omega
  simp (maxSteps:=1000000) (disch:=first|omega|assumption|decide +kernel|(simp;done)|(simp;omega)|fail) [hd,hk2,h,wk k (by omega)]
 ·intro k a hk hi
  try simp only[List.length_range]at hk
  try simp only[List.getElem_range]
  exact(hi.row hf hg hk 21 (Nat.le_refl _)).next
 ·intro a hi
  simp
theorem e_limit(t:CTrap)(f g:Nat)(hf:f<21)(hg:g<21)(m:Int)(hm: -40≤m∧m≤40)(d l:Nat)(B:List Int)(hM:MagB B 10000000000000000)(s:Stk)(hd2:d<s.length)(hs:sget s d l=some (.cell (trapV t B)))(lab):
 den T 124 [.ptr d l 4,i64 f,i64 g,i64 m] lab s=some (.tup [],sput s d l (.cell (trapV t (limL f g m B)))):=by
 have hd: ¬d=s.length:=by omega
 have h:=e_limit_l0 t f g hf hg m hm d l B hM s hd hd2
 simp only[List.length_range]at h
 have g1:=fun S=>cellK_trap (t:=t) hM.len hf hg S
 have hf2:(f:Int)<21:=by omega
 have hg2:(g:Int)<21:=by omega
 have hself:=sput_self s d l _ hs
 rw[hself]at h
 rw[den_fn t124 _ _ _ rfl]
 simp only[b124]
 unfold limL
 generalize gB B f g=x at*
 by_cases hx:x≤m
 ·rw[if_pos hx]
  simp (maxSteps:=1000000) (disch:=first|omega|assumption|decide +kernel|(simp;done)|(simp;omega)|fail) [-cellK_cell,hs,hd,g1,hf2,hg2,hx,hself]
 ·rw[if_neg hx]
  have hx2:m<x:=by omega
  simp (maxSteps:=1000000) (disch:=first|omega|assumption|decide +kernel|(simp;done)|(simp;omega)|fail) [-cellK_cell,hs,hd,g1,hf2,hg2,hx,hx2,h]
theorem e_is(t:CTrap)(f g:Nat)(hf:f<21)(hg:g<21)(lo hi:Int)(hb:0≤lo∧lo≤hi∧hi≤40)(d l:Nat)(B:List Int)(hM:MagB B 10000000000000000)(hM2:MagB (limL f g hi B) 10000000000000000)(s:Stk)(hd2:d<s.length)(hs:sget s d l=some (.cell (trapV t B)))(lab):
 den T 150 [.ptr d l 4,i64 f,i64 g, .agg [i64 lo,i64 hi]] lab s=some (.tup [],sput s d l (.cell (trapV t (limL g f (-lo) (limL f g hi B))))):=by
 have hd: ¬d=s.length:=by omega
 have h1:=fun(F:Ab.Loc) lab=>e_limit t f g hf hg hi (by omega) d l B hM (F::s) (by simp;omega) (by rw[sget_cons,if_neg hd];exact hs) lab
 have h2:=fun(F:Ab.Loc) lab=>e_limit t g f hg hf (-lo) (by omega) d l (limL f g hi B) hM2 (F::sput s d l (.cell (trapV t (limL f g hi B)))) (by simp;omega) (by rw[sget_cons,sput_length,if_neg hd];exact sget_put_same s l _ hd2) lab
 have w:IntKind.i64.wrap (-lo)= -lo:=wi _ (by omega) (by omega)
 rw[den_fn t150 _ _ _ rfl]
 simp only[b150]
 generalize limL f g hi B=B1 at*
 generalize limL g f (-lo) B1=B2 at*
 simp[hd]at h1 h2
 simp (maxSteps:=1000000) (disch:=first|omega|assumption|decide +kernel|(simp;done)|(simp;omega)|fail) [hd,h1,h2,w]
theorem e_clash(t:CTrap)(d l:Nat)(B:List Int)(hB:B.length=441)(s:Stk)(hd2:d<s.length)(hs:sget s d l=some (.cell (trapV t B)))(lab):
 den T 95 [.ptr d l 4] lab s=some (.bool (clashB B),s):=by
 have hd: ¬d=s.length:=by omega
 have hl:Run T b95l0 [(0, .ptr d l 4),(4,i64 0)] ([]::s)=if anyB (fun i=>decide (gB B i i<0)) (List.range 21)=true then some (.ret,[(2, .bool true)],[]::s)else some (.exit 0,[(0, .ptr d l 4),(4,i64 21),(5, .bool false)],[]::s):=by
  refine(loop_any (List.range 21) (fun i=>decide (gB B i i<0)) (fun k=>[(0, .ptr d l 4),(4,i64 k)]) (fun _=>[]::s) (.ret,[(2, .bool true)],[]::s) (.exit 0,[(0, .ptr d l 4),(4,i64 ((List.range 21).length:Nat)),(5, .bool false)],[]::s) (by simp) (by simp) ?_ (by simp) _ _ (by simp[hd]) (by simp)).trans (by simp)
  intro k hk
  simp only[List.length_range]at hk
  simp only[List.getElem_range]
  have g1:=fun S=>cellK_trap (t:=t) hB hk hk S
  have hk2:(k:Int)<21:=by omega
  generalize gB B k k=x at*
  by_cases hx:x<0<;>simp (maxSteps:=1000000) (disch:=first|omega|assumption|decide +kernel|(simp;done)|(simp;omega)|fail) [-cellK_cell,hs,hd,g1,hk2,hx,wk k (by omega)]
 rw[den_fn t95 _ _ _ rfl]
 simp only[b95]
 have e:clashB B=anyB (fun i=>decide (gB B i i<0)) (List.range 21):=rfl
 rw[e]
 cases h:anyB (fun i=>decide (gB B i i<0)) (List.range 21)
 ·rw[h]at hl
  simp only[Bool.false_eq_true,if_false]at hl
  simp (maxSteps:=1000000) (disch:=first|omega|assumption|decide +kernel|(simp;done)|(simp;omega)|fail) [hl]
 ·rw[h]at hl
  simp only[if_true]at hl
  simp (maxSteps:=1000000) (disch:=first|omega|assumption|decide +kernel|(simp;done)|(simp;omega)|fail) [hl]
theorem e_betw(t:CTrap)(f g:Nat)(hf:f<21)(hg:g<21)(d l:Nat)(B:List Int)(hM:MagB B 10000000000000000)(s:Stk)(hd2:d<s.length)(hs:sget s d l=some (.cell (trapV t B)))(lab):
 den T 97 [.ptr d l 4,i64 f,i64 g] lab s=some (.agg [i64 (betwS B f g).lo,i64 (betwS B f g).hi],s):=by
 have hd: ¬d=s.length:=by omega
 have g1:=fun S=>cellK_trap (t:=t) hM.len hf hg S
 have g2:=fun S=>cellK_trap (t:=t) hM.len hg hf S
 have b1:=hM.lo g f hg hf
 have b2:=hM.hi g f hg hf
 have w:IntKind.i64.wrap (-gB B g f)= -gB B g f:=wi _ (by omega) (by omega)
 have hf2:(f:Int)<21:=by omega
 have hg2:(g:Int)<21:=by omega
 rw[den_fn t97 _ _ _ rfl]
 simp only[b97]
 unfold betwS
 generalize gB B f g=x at*
 generalize gB B g f=y at*
 simp (maxSteps:=1000000) (disch:=first|omega|assumption|decide +kernel|(simp;done)|(simp;omega)|fail) [run_drawnK,-cellK_cell,hs,hd,g1,g2,hf2,hg2,w]
end Go.Proofs.YtoedpegjoccnlaaGreat

/-
  Watch: a trap made ready (not built yet).
-/
namespace Go.Proofs.YtoedpegjoccnlaaGreat
open Go.Ab
@[simp] theorem trapV_d(d keep t B):V.mapAll (dropR d keep) (trapV t B)=trapV t B:=trapV_map _ rfl t B
@[simp] theorem trapV_f(d k z e t B):V.mapAll (frzR d k z e) (trapV t B)=trapV t B:=trapV_map _ rfl t B
@[simp] theorem trapV_r(own d loc ls d' lab t B):V.mapAll (renR own d loc ls d' lab) (trapV t B)=trapV t B:=trapV_map _ (by cases own<;>rfl) t B
@[simp] theorem trapV_refs(own:Bool)(d t B):V.refsAll own d (trapV t B)=[]:=by
 have: ∀l:List Int,V.refsAll own d (l.map i64)=[]:=fun l=>by
  induction l with
  |nil=>rfl
  |cons a l ih=>simp[V.refsAll,V.refs,ih]
 cases own<;>simp[trapV,V.refsAll,V.refs,Cap.refs,this]
@[simp] theorem trapV_strip(t B):V.stripAll (trapV t B)=trapV t B:=by
 have: ∀l:List Int,V.stripAll (l.map i64)=l.map i64:=fun l=>by
  induction l with
  |nil=>rfl
  |cons a l ih=>simp[V.stripAll,V.strip,ih]
 simp[trapV,V.stripAll,V.strip,this]
theorem e_word(t:CTrap)(h:TrapOk t)(d l:Nat)(B:List Int)(hM:MagB B 10000000000000000)(w:CWord)(hw:w∈t.words)(hM2:MagB (limL (nodeN t.C w.time.toNat (w.chamber.toNat+1)) (nodeN t.C w.time.toNat w.chamber.toNat) w.hi B) 10000000000000000)(s:Stk)(hd2:d<s.length)(hs:sget s d l=some (.cell (trapV t B)))(lab):
 den T 125 [.ptr d l 0, .agg [i64 w.time,i64 w.chamber,i64 w.lo,i64 w.hi]] lab s=some (.tup [],sput s d l (.cell (trapV t ((limsW t.C w).foldl limF B)))):=by
 have hd: ¬d=s.length:=by omega
 have hb:=wordOk_iff.1 (h.word w hw)
 obtain⟨k1,k2⟩:=word_in h hw
 have et:((w.time.toNat:Nat):Int)=w.time:=by omega
 have ec:((w.chamber.toNat:Nat):Int)=w.chamber:=by omega
 have ec2:((w.chamber.toNat+1:Nat):Int)=w.chamber+1:=by omega
 have n1:=fun(F:Ab.Loc) lab=>e_node t B h d l w.time.toNat w.chamber.toNat k1 (Nat.le_of_lt k2) (F::s) (by simp;omega) (by rw[sget_cons,if_neg hd];exact hs) lab
 have n2:=fun(F:Ab.Loc) lab=>e_node t B h d l w.time.toNat (w.chamber.toNat+1) k1 (show w.chamber.toNat+1≤t.C from k2) (F::s) (by simp;omega) (by rw[sget_cons,if_neg hd];exact hs) lab
 rw[et,ec]at n1
 rw[et,ec2]at n2
 have hi:=fun(F:Ab.Loc) lab=>e_is t (nodeN t.C w.time.toNat (w.chamber.toNat+1)) (nodeN t.C w.time.toNat w.chamber.toNat) (node_lt h k1 k2) (node_lt h k1 (Nat.le_of_lt k2)) w.lo w.hi (by omega) d l B hM hM2 (F::s) (by simp;omega) (by rw[sget_cons,if_neg hd];exact hs) lab
 have w1:IntKind.i64.wrap (w.chamber+1)=w.chamber+1:=wi _ (by have:=h.cc;omega) (by have:=h.cc;omega)
 have ef:(limsW t.C w).foldl limF B=limL (nodeN t.C w.time.toNat w.chamber.toNat) (nodeN t.C w.time.toNat (w.chamber.toNat+1)) (-w.lo) (limL (nodeN t.C w.time.toNat (w.chamber.toNat+1)) (nodeN t.C w.time.toNat w.chamber.toNat) w.hi B):=rfl
 rw[ef]
 generalize limL (nodeN t.C w.time.toNat w.chamber.toNat) (nodeN t.C w.time.toNat (w.chamber.toNat+1)) (-w.lo) (limL (nodeN t.C w.time.toNat (w.chamber.toNat+1)) (nodeN t.C w.time.toNat w.chamber.toNat) w.hi B)=B2 at*
 generalize nodeN t.C w.time.toNat w.chamber.toNat=y at*
 generalize nodeN t.C w.time.toNat (w.chamber.toNat+1)=z at*
 obtain⟨t0,t1,t2,t3⟩:=w
 dsimp only at*
 simp[hd]at hi
 rw[den_fn t125 _ _ _ rfl]
 simp only[b125]
 simp (maxSteps:=1000000) (disch:=first|omega|assumption|decide +kernel|(simp;done)|(simp;omega)|fail) [run_drawnK,hd,n1,n2,hi,w1]
def fillS(i:Nat)(B:List Int)(k:Nat):List Int:=if i≠k then B.set (21*i+k) 1048576 else B
def fillRow(B:List Int)(i:Nat):List Int:=(List.range 21).foldl (fillS i) B
theorem fill_len(i:Nat): ∀(l:List Nat) (B:List Int),(l.foldl (fillS i) B).length=B.length
 |[],_=>rfl
 |k::l,B=>by rw[List.foldl_cons,fill_len i l];unfold fillS;split<;>simp
def zeroB:List Int:=List.replicate 441 0
@[simp] theorem zeroB_length:zeroB.length=441:=List.length_replicate
theorem fill_all:(List.range 21).foldl fillRow zeroB=b0L:=by decide +kernel
theorem e_set_l1(t:CTrap)(i:Nat)(hi0:i<21)(B:List Int)(hB:B.length=441)(s:Stk):
 Run T b94l1 [(1,i64 (-1)),(2, .ptr s.length 32 0),(5, .ptr s.length 256 0),(6,i64 i),(17,i64 i),(20,i64 0)] ([(32, .cell [i64 t.chambers,i64 t.times, .sl .no 1 (es cInts t.opn), .sl .no 4 (es cWord t.words)]),(256, .cell (trapV t B))]::s)=some (.exit 2,[(1,i64 (-1)),(2, .ptr s.length 32 0),(5, .ptr s.length 256 0),(6,i64 i),(17,i64 i),(20,i64 ((List.range 21).length:Nat)),(21, .bool false)],[(32, .cell [i64 t.chambers,i64 t.times, .sl .no 1 (es cInts t.opn), .sl .no 4 (es cWord t.words)]),(256, .cell (trapV t ((List.range 21).foldl (fillS i) B)))]::s):=by
 have key:=loop_fold (T:=T) (live:=[1,2,5,6,17,20]) (keep:=[32,208,256,720,736,928,1008,1024,1136,1200,1296,1424,1536,1792]) (b:=d94l1) (List.range 21) (fun _ A=>A.length=441) (fillS i) (fun k (a:List Int)=>[(1,i64 (-1)),(2, .ptr s.length 32 0),(5, .ptr s.length 256 0),(6,i64 i),(17,i64 i),(20,i64 (k:Nat))]) (fun k (a:List Int)=>[(32, .cell [i64 t.chambers,i64 t.times, .sl .no 1 (es cInts t.opn), .sl .no 4 (es cWord t.words)]),(256, .cell (trapV t a))]::s) (fun(a:List Int)=>(.exit 2,[(1,i64 (-1)),(2, .ptr s.length 32 0),(5, .ptr s.length 256 0),(6,i64 i),(17,i64 i),(20,i64 ((List.range 21).length:Nat)),(21, .bool false)],[(32, .cell [i64 t.chambers,i64 t.times, .sl .no 1 (es cInts t.opn), .sl .no 4 (es cWord t.words)]),(256, .cell (trapV t a))]::s)) (by simp) ?_ ?_ ?_ B (hB) [(1,i64 (-1)),(2, .ptr s.length 32 0),(5, .ptr s.length 256 0),(6,i64 i),(17,i64 i),(20,i64 0)] ([(32, .cell [i64 t.chambers,i64 t.times, .sl .no 1 (es cInts t.opn), .sl .no 4 (es cWord t.words)]),(256, .cell (trapV t B))]::s) (by simp) (by simp)
 ·exact key
 ·intro k a hk hi
  try simp only[List.length_range]at hk
  try simp only[List.getElem_range]
  have g4:=fun S d l x=>fitK_trap (t:=t) hi hi0 hk S d l x
  have hk2:(k:Int)<21:=by omega
  have hi2:(i:Int)<21:=by omega
  unfold fillS
  by_cases e:i=k
  ·subst e
   simp (maxSteps:=1000000) (disch:=first|omega|assumption|decide +kernel|(simp;done)|(simp;omega)|fail) [-fitK_eq,g4,hk2,wk i (by omega)]
  ·have e2: ¬(i:Int)=k:=by omega
   simp (maxSteps:=1000000) (disch:=first|omega|assumption|decide +kernel|(simp;done)|(simp;omega)|fail) [-fitK_eq,g4,hk2,hi2,e,e2,wk k (by omega)]
 ·intro k a hk hi
  try simp only[List.length_range]at hk
  try simp only[List.getElem_range]
  unfold fillS;split<;>simp[hi]
 ·intro a hi
  simp
theorem e_set_l0(t:CTrap)(s:Stk):
 Run T b94l0 [(1,i64 (-1)),(2, .ptr s.length 32 0),(5, .ptr s.length 256 0),(17,i64 0)] ([(32, .cell [i64 t.chambers,i64 t.times, .sl .no 1 (es cInts t.opn), .sl .no 4 (es cWord t.words)]),(256, .cell (trapV t zeroB))]::s)=some (.exit 0,[(1,i64 (-1)),(2, .ptr s.length 32 0),(5, .ptr s.length 256 0),(17,i64 ((List.range 21).length:Nat)),(18, .bool false)],[(32, .cell [i64 t.chambers,i64 t.times, .sl .no 1 (es cInts t.opn), .sl .no 4 (es cWord t.words)]),(256, .cell (trapV t ((List.range 21).foldl (fillRow) zeroB)))]::s):=by
 have key:=loop_fold (T:=T) (live:=[1,2,5,17]) (keep:=[32,208,256,720,736,928,1008,1024,1136,1200,1296,1424,1536,1792]) (b:=d94l0) (List.range 21) (fun _ A=>A.length=441) (fillRow) (fun k (a:List Int)=>[(1,i64 (-1)),(2, .ptr s.length 32 0),(5, .ptr s.length 256 0),(17,i64 (k:Nat))]) (fun k (a:List Int)=>[(32, .cell [i64 t.chambers,i64 t.times, .sl .no 1 (es cInts t.opn), .sl .no 4 (es cWord t.words)]),(256, .cell (trapV t a))]::s) (fun(a:List Int)=>(.exit 0,[(1,i64 (-1)),(2, .ptr s.length 32 0),(5, .ptr s.length 256 0),(17,i64 ((List.range 21).length:Nat)),(18, .bool false)],[(32, .cell [i64 t.chambers,i64 t.times, .sl .no 1 (es cInts t.opn), .sl .no 4 (es cWord t.words)]),(256, .cell (trapV t a))]::s)) (by simp) ?_ ?_ ?_ zeroB (by simp) [(1,i64 (-1)),(2, .ptr s.length 32 0),(5, .ptr s.length 256 0),(17,i64 0)] ([(32, .cell [i64 t.chambers,i64 t.times, .sl .no 1 (es cInts t.opn), .sl .no 4 (es cWord t.words)]),(256, .cell (trapV t zeroB))]::s) (by simp) (by simp)
 ·exact key
 ·intro k a hk hi
  try simp only[List.length_range]at hk
  try simp only[List.getElem_range]
  have hk2:(k:Int)<21:=by omega
  have h:=e_set_l1 t k hk a hi s
  rw[show(List.range 21).foldl (fillS k) a=fillRow a k from rfl]at h
  simp only[List.length_range]at h
  simp (maxSteps:=1000000) (disch:=first|omega|assumption|decide +kernel|(simp;done)|(simp;omega)|fail) [hk2,h,wk k (by omega)]
 ·intro k a hk hi
  try simp only[List.length_range]at hk
  try simp only[List.getElem_range]
  unfold fillRow;rw[fill_len];exact hi
 ·intro a hi
  simp
end Go.Proofs.YtoedpegjoccnlaaGreat

/-
  Watch: a trap made ready: doors, words (not built yet).
-/
namespace Go.Proofs.YtoedpegjoccnlaaGreat
open Go.Ab
theorem doorB_has(t:CTrap) {i:Nat}(hi:i<t.opn.length)(c:Nat):doorB t i c=has t.opn[i] c:=by simp[doorB,anyB,List.getD,hi]
theorem e_nodeI(t:CTrap)(B:List Int)(h:TrapOk t)(d l:Nat)(i c:Nat)(hi:i<t.T)(hc:c≤t.C)(iv cv:Int)(h1:iv=(i:Int))(h2:cv=(c:Int))(s:Stk)(hd:d<s.length)(hs:sget s d l=some (.cell (trapV t B)))(lab):
 den T 98 [.ptr d l 0,i64 iv,i64 cv] lab s=some (i64 (nodeN t.C i c:Nat),s):=by subst h1;subst h2;exact e_node t B h d l i c hi hc s hd hs lab
set_option maxHeartbeats 4000000 in
theorem e_set_l3(t:CTrap)(h:TrapOk t)(hop: ∀l,l∈t.opn→l.length<4611686018427387904)(i:Nat)(hi0:i<t.T)(B:List Int)(hB:DoorB B)(s:Stk):
 Run T b94l3 [(1,i64 (-1)),(2, .ptr s.length 32 0),(5, .ptr s.length 256 0),(8,i64 i),(36,i64 t.times),(37,i64 i),(48,i64 t.chambers),(49,i64 0)] ([(32, .cell [i64 t.chambers,i64 t.times, .sl .no 1 (es cInts t.opn), .sl .no 4 (es cWord t.words)]),(256, .cell (trapV t B))]::s)=some (.exit 6,[(1,i64 (-1)),(2, .ptr s.length 32 0),(5, .ptr s.length 256 0),(8,i64 i),(36,i64 t.times),(37,i64 i),(48,i64 t.chambers),(49,i64 ((List.range t.C).length:Nat)),(50, .bool false)],[(32, .cell [i64 t.chambers,i64 t.times, .sl .no 1 (es cInts t.opn), .sl .no 4 (es cWord t.words)]),(256, .cell (trapV t ((List.range t.C).foldl (fun A c=>(limsC t i c).foldl limF A) B)))]::s):=by
 have key:=loop_fold (T:=T) (live:=[1,2,5,8,36,37,48,49]) (keep:=[32,208,256,720,736,1792]) (b:=d94l3) (List.range t.C) (fun _ A=>DoorB A) (fun A c=>(limsC t i c).foldl limF A) (fun k (a:List Int)=>[(1,i64 (-1)),(2, .ptr s.length 32 0),(5, .ptr s.length 256 0),(8,i64 i),(36,i64 t.times),(37,i64 i),(48,i64 t.chambers),(49,i64 (k:Nat))]) (fun k (a:List Int)=>[(32, .cell [i64 t.chambers,i64 t.times, .sl .no 1 (es cInts t.opn), .sl .no 4 (es cWord t.words)]),(256, .cell (trapV t a))]::s) (fun(a:List Int)=>(.exit 6,[(1,i64 (-1)),(2, .ptr s.length 32 0),(5, .ptr s.length 256 0),(8,i64 i),(36,i64 t.times),(37,i64 i),(48,i64 t.chambers),(49,i64 ((List.range t.C).length:Nat)),(50, .bool false)],[(32, .cell [i64 t.chambers,i64 t.times, .sl .no 1 (es cInts t.opn), .sl .no 4 (es cWord t.words)]),(256, .cell (trapV t a))]::s)) (by simp) ?_ ?_ ?_ B (hB) [(1,i64 (-1)),(2, .ptr s.length 32 0),(5, .ptr s.length 256 0),(8,i64 i),(36,i64 t.times),(37,i64 i),(48,i64 t.chambers),(49,i64 0)] ([(32, .cell [i64 t.chambers,i64 t.times, .sl .no 1 (es cInts t.opn), .sl .no 4 (es cWord t.words)]),(256, .cell (trapV t B))]::s) (by simp) (by simp)
 ·exact key
 ·intro k a hk hi
  try simp only[List.length_range]at hk
  try simp only[List.getElem_range]
  have hc:=h.cc
  have ht:=h.tt
  have e1:t.C=t.chambers.toNat:=rfl
  have e2:t.T=t.times.toNat:=rfl
  have hk2:(k:Int)<t.chambers:=by omega
  have n1:=fun B (F:Ab.Loc) (hF:Loc.get F 256=some (.cell (trapV t B))) lab=>e_nodeI t B h s.length 256 i k hi0 (Nat.le_of_lt hk) i k rfl rfl (F::s) (by simp) (by simp[hF]) lab
  have n2:=fun B (F:Ab.Loc) (hF:Loc.get F 256=some (.cell (trapV t B))) lab=>e_nodeI t B h s.length 256 i (k+1) hi0 (show k+1≤t.C from hk) i ((k:Int)+1) rfl rfl (F::s) (by simp) (by simp[hF]) lab
  have b1:=node_lt h hi0 (Nat.le_of_lt hk)
  have b2:=node_lt h hi0 (show k+1≤t.C from hk)
  have hL:=fun B (hB:DoorB B) x y hx hy (F:Ab.Loc) (hF:Loc.get F 256=some (.cell (trapV t B))) lab=>e_limit t x y hx hy 0 (by omega) s.length 256 B (hB.mag.weaken (magN_small (by omega))) (F::s) (by simp) (by simp[hF]) lab
  have l1:=hL a hi _ _ b1 b2
  have d1:DoorB (limL (nodeN t.C i k) (nodeN t.C i (k+1)) 0 a):=hi.lim (l:=⟨nodeN t.C i k,nodeN t.C i (k+1),0⟩) ⟨b1,b2,Int.le_refl _⟩
  have w1:IntKind.i64.wrap ((k:Int)+1)=(k:Int)+1:=wi _ (by omega) (by omega)
  by_cases hz:i=0
  ·subst hz
   simp only[show((0:Nat):Int)=0 from rfl]at n1 n2
   have ef:(limsC t 0 k).foldl limF a=limL (nodeN t.C 0 k) (nodeN t.C 0 (k+1)) 0 a:=rfl
   rw[ef]
   have n1a:=n1 a
   have n2a:=n2 a
   clear n1 n2
   generalize nodeN t.C 0 k=x at*
   generalize nodeN t.C 0 (k+1)=y at*
   generalize limL x y 0 a=B1 at*
   simp (maxSteps:=1000000) (disch:=first|omega|assumption|decide +kernel|(simp;done)|(simp;omega)|fail) [run_drawnK,hk2,n1a,n2a,l1,w1,wk k (by omega)]
  ·obtain⟨j,rfl⟩: ∃j,i=j+1:=⟨i-1,by omega⟩
   simp only[show((j+1:Nat):Int)=(j:Int)+1 from rfl]at n1 n2
   have n3:=fun B (F:Ab.Loc) (hF:Loc.get F 256=some (.cell (trapV t B))) lab=>e_nodeI t B h s.length 256 j k (by omega) (Nat.le_of_lt hk) j k rfl rfl (F::s) (by simp) (by simp[hF]) lab
   have b3:=node_lt h (show j<t.T by omega) (Nat.le_of_lt hk)
   have l2:=hL _ d1 _ _ b1 b3
   have d2:DoorB (limL (nodeN t.C (j+1) k) (nodeN t.C j k) 0 (limL (nodeN t.C (j+1) k) (nodeN t.C (j+1) (k+1)) 0 a)):=d1.lim (l:=⟨nodeN t.C (j+1) k,nodeN t.C j k,0⟩) ⟨b1,b3,Int.le_refl _⟩
   have l3:=hL _ d2 _ _ b3 b1
   have hjo:j<t.opn.length:=by have:=h.opn;omega
   have hj2:(j:Int)<t.opn.length:=by omega
   have hdo:=doorB_has t hjo k
   have hlen:=hop t.opn[j] (List.getElem_mem hjo)
   have w2:IntKind.i64.wrap (j:Int)=j:=wi _ (by omega) (by omega)
   have hj3: ¬(j:Int)+1=0:=by omega
   cases hd:doorB t j k
   ·have ef:(limsC t (j+1) k).foldl limF a=limL (nodeN t.C j k) (nodeN t.C (j+1) k) 0 (limL (nodeN t.C (j+1) k) (nodeN t.C j k) 0 (limL (nodeN t.C (j+1) k) (nodeN t.C (j+1) (k+1)) 0 a)):=by
     unfold limsC;rw[if_neg (by omega),Nat.add_sub_cancel,hd];rfl
    rw[ef]
    rw[hd]at hdo
    clear hL
    have n1a:=n1 a
    have n2a:=n2 a
    have n1b:=n1 (limL (nodeN t.C (j+1) k) (nodeN t.C (j+1) (k+1)) 0 a)
    have n3b:=n3 (limL (nodeN t.C (j+1) k) (nodeN t.C (j+1) (k+1)) 0 a)
    clear n1 n2 n3
    generalize nodeN t.C (j+1) k=x at*
    generalize nodeN t.C (j+1) (k+1)=y at*
    generalize nodeN t.C j k=z at*
    generalize limL z x 0 (limL x z 0 (limL x y 0 a))=B3 at*
    generalize limL x z 0 (limL x y 0 a)=B2 at*
    generalize limL x y 0 a=B1 at*
    simp (maxSteps:=1000000) (disch:=first|omega|assumption|decide +kernel|(simp;done)|(simp;omega)|fail) [run_drawnK,hk2,n1a,n2a,n1b,n3b,l1,l2,l3,w1,w2,hj2,hj3,hjo,hdo.symm,hlen,wk k (by omega)]
   ·have ef:(limsC t (j+1) k).foldl limF a=limL (nodeN t.C (j+1) k) (nodeN t.C j k) 0 (limL (nodeN t.C (j+1) k) (nodeN t.C (j+1) (k+1)) 0 a):=by
     unfold limsC;rw[if_neg (by omega),Nat.add_sub_cancel,hd];rfl
    rw[ef]
    rw[hd]at hdo
    clear hL
    have n1a:=n1 a
    have n2a:=n2 a
    have n1b:=n1 (limL (nodeN t.C (j+1) k) (nodeN t.C (j+1) (k+1)) 0 a)
    have n3b:=n3 (limL (nodeN t.C (j+1) k) (nodeN t.C (j+1) (k+1)) 0 a)
    clear n1 n2 n3
    generalize nodeN t.C (j+1) k=x at*
    generalize nodeN t.C (j+1) (k+1)=y at*
    generalize nodeN t.C j k=z at*
    clear l3 d2
    generalize limL x z 0 (limL x y 0 a)=B2 at*
    generalize limL x y 0 a=B1 at*
    simp (maxSteps:=1000000) (disch:=first|omega|assumption|decide +kernel|(simp;done)|(simp;omega)|fail) [run_drawnK,hk2,n1a,n2a,n1b,n3b,l1,l2,w1,w2,hj2,hj3,hjo,hdo.symm,hlen,wk k (by omega)]
 ·intro k a hk hi
  try simp only[List.length_range]at hk
  try simp only[List.getElem_range]
  exact hi.lims _ fun l hl=>by have:=limsC_lt h hi0 hk hl;omega
 ·intro a hi
  have hc:=h.cc
  have e1:t.C=t.chambers.toNat:=rfl
  have hk3:((t.C:Nat):Int)=t.chambers:=by omega
  simp only[List.length_range,hk3]
  simp
end Go.Proofs.YtoedpegjoccnlaaGreat

/-
  Watch: a trap made ready, whole (not built yet).
-/
namespace Go.Proofs.YtoedpegjoccnlaaGreat
open Go.Ab
theorem limsI_fold(t:CTrap)(i:Nat)(A:List Int):(limsI t i).foldl limF A=(List.range t.C).foldl (fun A c=>(limsC t i c).foldl limF A) (limL 0 (nodeN t.C i 0) 40 A):=by
 unfold limsI
 rw[List.foldl_cons,List.foldl_flatMap];rfl
theorem limsT_fold(t:CTrap):(limsT t).foldl limF b0L=(List.range t.T).foldl (fun A i=>(limsI t i).foldl limF A) b0L:=by
 unfold limsT
 rw[List.foldl_flatMap]
set_option maxHeartbeats 1000000 in
theorem e_set_l2(t:CTrap)(h:TrapOk t)(hop: ∀l,l∈t.opn→l.length<4611686018427387904)(s:Stk):
 Run T b94l2 [(1,i64 (-1)),(2, .ptr s.length 32 0),(5, .ptr s.length 256 0),(36,i64 t.times),(37,i64 0)] ([(32, .cell [i64 t.chambers,i64 t.times, .sl .no 1 (es cInts t.opn), .sl .no 4 (es cWord t.words)]),(256, .cell (trapV t b0L))]::s)=some (.exit 4,[(1,i64 (-1)),(2, .ptr s.length 32 0),(5, .ptr s.length 256 0),(36,i64 t.times),(37,i64 ((List.range t.T).length:Nat)),(38, .bool false)],[(32, .cell [i64 t.chambers,i64 t.times, .sl .no 1 (es cInts t.opn), .sl .no 4 (es cWord t.words)]),(256, .cell (trapV t ((List.range t.T).foldl (fun A i=>(limsI t i).foldl limF A) b0L)))]::s):=by
 have key:=loop_fold (T:=T) (live:=[1,2,5,36,37]) (keep:=[32,208,256,1792]) (b:=d94l2) (List.range t.T) (fun _ A=>DoorB A) (fun A i=>(limsI t i).foldl limF A) (fun k (a:List Int)=>[(1,i64 (-1)),(2, .ptr s.length 32 0),(5, .ptr s.length 256 0),(36,i64 t.times),(37,i64 (k:Nat))]) (fun k (a:List Int)=>[(32, .cell [i64 t.chambers,i64 t.times, .sl .no 1 (es cInts t.opn), .sl .no 4 (es cWord t.words)]),(256, .cell (trapV t a))]::s) (fun(a:List Int)=>(.exit 4,[(1,i64 (-1)),(2, .ptr s.length 32 0),(5, .ptr s.length 256 0),(36,i64 t.times),(37,i64 ((List.range t.T).length:Nat)),(38, .bool false)],[(32, .cell [i64 t.chambers,i64 t.times, .sl .no 1 (es cInts t.opn), .sl .no 4 (es cWord t.words)]),(256, .cell (trapV t a))]::s)) (by simp) ?_ ?_ ?_ b0L (.start) [(1,i64 (-1)),(2, .ptr s.length 32 0),(5, .ptr s.length 256 0),(36,i64 t.times),(37,i64 0)] ([(32, .cell [i64 t.chambers,i64 t.times, .sl .no 1 (es cInts t.opn), .sl .no 4 (es cWord t.words)]),(256, .cell (trapV t b0L))]::s) (by simp) (by simp)
 ·exact key
 ·intro k a hk hi
  try simp only[List.length_range]at hk
  try simp only[List.getElem_range]
  have hc:=h.cc
  have ht:=h.tt
  have e1:t.C=t.chambers.toNat:=rfl
  have e2:t.T=t.times.toNat:=rfl
  have hk2:(k:Int)<t.times:=by omega
  have b1:=node_lt h hk (Nat.zero_le t.C)
  have n1:=fun(F:Ab.Loc) (hF:Loc.get F 256=some (.cell (trapV t a))) lab=>e_nodeI t a h s.length 256 k 0 hk (Nat.zero_le _) k 0 rfl rfl (F::s) (by simp) (by simp[hF]) lab
  have l1:=fun(F:Ab.Loc) (hF:Loc.get F 256=some (.cell (trapV t a))) lab=>e_limit t 0 (nodeN t.C k 0) (by decide) b1 40 (by omega) s.length 256 a (hi.mag.weaken (magN_small (by omega))) (F::s) (by simp) (by simp[hF]) lab
  simp only[show((0:Nat):Int)=0 from rfl]at l1
  have d1:DoorB (limL 0 (nodeN t.C k 0) 40 a):=hi.lim (l:=⟨0,nodeN t.C k 0,40⟩) ⟨show 0<21 by decide,b1,by dsimp only;omega⟩
  have h3:=e_set_l3 t h hop k hk _ d1 s
  rw[limsI_fold]
  have eC:((t.C:Nat):Int)=t.chambers:=by omega
  simp only[List.length_range,eC]at h3
  generalize (List.range t.C).foldl (fun A c=>(limsC t k c).foldl limF A) (limL 0 (nodeN t.C k 0) 40 a)=B2 at*
  generalize limL 0 (nodeN t.C k 0) 40 a=B1 at*
  generalize nodeN t.C k 0=x at*
  simp (maxSteps:=1000000) (disch:=first|omega|assumption|decide +kernel|(simp;done)|(simp;omega)|fail) [run_drawnK,hk2,n1,l1,h3,wk k (by omega)]
 ·intro k a hk hi
  try simp only[List.length_range]at hk
  try simp only[List.getElem_range]
  refine hi.lims _ fun l hl=> ?_
  simp only[limsI,List.mem_cons,List.mem_flatMap,List.mem_range]at hl
  rcases hl with rfl|⟨c,hc,hl⟩
  ·exact⟨show 0<21 by decide,node_lt h hk (Nat.zero_le _),by dsimp only;omega⟩
  ·have:=limsC_lt h hk hc hl;omega
 ·intro a hi
  have ht:=h.tt
  have e2:t.T=t.times.toNat:=rfl
  have hk3:((t.T:Nat):Int)=t.times:=by omega
  simp only[List.length_range,hk3]
  simp
set_option maxHeartbeats 1000000 in
theorem e_set_l4(t:CTrap)(h:TrapOk t)(D:List Int)(hD:DoorB D)(s:Stk):
 Run T b94l4 [(1,i64 (-1)),(5, .ptr s.length 256 0),(100, .sl .no 4 (es cWord t.words)),(101,i64 t.words.length),(102,i64 0)] ([(32, .cell [i64 t.chambers,i64 t.times, .sl .no 1 (es cInts t.opn), .sl .no 4 (es cWord t.words)]),(256, .cell (trapV t D))]::s)=some (.exit 8,[(1,i64 (-1)),(5, .ptr s.length 256 0),(100, .sl .no 4 (es cWord t.words)),(101,i64 t.words.length),(102,i64 ((List.range t.words.length).length:Nat)),(103, .bool false)],[(32, .cell [i64 t.chambers,i64 t.times, .sl .no 1 (es cInts t.opn), .sl .no 4 (es cWord t.words)]),(256, .cell (trapV t ((List.range t.words.length).foldl (fun A k=>(limsW t.C (t.words.getD k default)).foldl limF A) D)))]::s):=by
 have key:=loop_fold (T:=T) (live:=[1,5,100,101,102]) (keep:=[32,256,720,736,928,1008,1024,1136,1200,1296,1424,1536]) (b:=d94l4) (List.range t.words.length) (fun k A=>A=((t.words.take k).flatMap (limsW t.C)).foldl limF D) (fun A k=>(limsW t.C (t.words.getD k default)).foldl limF A) (fun k (a:List Int)=>[(1,i64 (-1)),(5, .ptr s.length 256 0),(100, .sl .no 4 (es cWord t.words)),(101,i64 t.words.length),(102,i64 (k:Nat))]) (fun k (a:List Int)=>[(32, .cell [i64 t.chambers,i64 t.times, .sl .no 1 (es cInts t.opn), .sl .no 4 (es cWord t.words)]),(256, .cell (trapV t a))]::s) (fun(a:List Int)=>(.exit 8,[(1,i64 (-1)),(5, .ptr s.length 256 0),(100, .sl .no 4 (es cWord t.words)),(101,i64 t.words.length),(102,i64 ((List.range t.words.length).length:Nat)),(103, .bool false)],[(32, .cell [i64 t.chambers,i64 t.times, .sl .no 1 (es cInts t.opn), .sl .no 4 (es cWord t.words)]),(256, .cell (trapV t a))]::s)) (by simp) ?_ ?_ ?_ D (by simp) [(1,i64 (-1)),(5, .ptr s.length 256 0),(100, .sl .no 4 (es cWord t.words)),(101,i64 t.words.length),(102,i64 0)] ([(32, .cell [i64 t.chambers,i64 t.times, .sl .no 1 (es cInts t.opn), .sl .no 4 (es cWord t.words)]),(256, .cell (trapV t D))]::s) (by simp) (by simp)
 ·exact key
 ·intro k a hk hi
  try simp only[List.length_range]at hk
  try simp only[List.getElem_range]
  have hw8:=h.words
  have hk2:(k:Int)<t.words.length:=by omega
  have ew:t.words.getD k default=t.words[k]:=by simp[List.getD,hk]
  have hmem:t.words[k]∈t.words:=List.getElem_mem hk
  have hm:MagB a (magN (2*k)):=by
   have:=mag_some h hD (t.words.take k) fun w hw=>List.mem_of_mem_take hw
   rw[List.length_take,Nat.min_eq_left (by omega)]at this
   rw[hi];exact this
  have hm1:=hm.weaken (magN_small (by omega))
  obtain⟨k1,k2⟩:=word_in h hmem
  have hb:=wordOk_iff.1 (h.word _ hmem)
  have hm2:MagB (limL (nodeN t.C t.words[k].time.toNat (t.words[k].chamber.toNat+1)) (nodeN t.C t.words[k].time.toNat t.words[k].chamber.toNat) t.words[k].hi a) (magN (2*k+1)):=hm.limit (magN_nonneg _) (l:=⟨_,_,t.words[k].hi⟩) ⟨node_lt h k1 (show t.words[k].chamber.toNat+1≤t.C from k2),node_lt h k1 (Nat.le_of_lt k2),by dsimp only;omega⟩
  have hW:=fun(F:Ab.Loc) (hF:Loc.get F 256=some (.cell (trapV t a))) lab=>e_word t h s.length 256 a hm1 t.words[k] hmem (hm2.weaken (magN_small (by omega))) (F::s) (by simp) (by simp[hF]) lab
  have hk3: ¬(k:Int)= -1:=by omega
  rw[ew]
  generalize (limsW t.C t.words[k]).foldl limF a=B1 at*
  simp (maxSteps:=1000000) (disch:=first|omega|assumption|decide +kernel|(simp;done)|(simp;omega)|fail) [hk,hk2,hk3,hW,wk k (by omega)]
 ·intro k a hk hi
  try simp only[List.length_range]at hk
  try simp only[List.getElem_range]
  have hk':k<t.words.length:=hk
  have ew:t.words.getD k default=t.words[k]:=by simp[List.getD,hk']
  rw[ew,List.take_succ_eq_append_getElem hk',List.flatMap_append,List.foldl_append,←hi]
  simp
 ·intro a hi
  simp
end Go.Proofs.YtoedpegjoccnlaaGreat

/-
  Watch: counts.Check, open (not built yet).
-/
namespace Go.Proofs.YtoedpegjoccnlaaGreat
open Go.Ab
def trapB(t:CTrap):Bool:=wiB t.chambers 1 4&&(wiB t.times 1 5&&(decide ((t.opn.length:Int)=t.times-1)&&(decide (t.words.length≤8)&&(allB (fun l=>rising l 0 (t.chambers-1)) t.opn&&allB (fun w=>wordOk t w) t.words))))
theorem trapB_ok {t:CTrap}(h:trapB t=true):TrapOk t:=by
 simp only[trapB,Bool.and_eq_true,wiB_iff,decide_eq_true_eq,allB,List.all_eq_true]at h
 exact⟨h.1,h.2.1,h.2.2.2.2.2,by omega,h.2.2.1⟩
theorem trapB_rise {t:CTrap}(h:trapB t=true) {l:List Int}(hl:l∈t.opn):rising l 0 (t.chambers-1)=true:=by
 simp only[trapB,Bool.and_eq_true,allB,List.all_eq_true]at h
 exact h.2.2.2.2.1 l hl
theorem trapB_open {t:CTrap}(h:trapB t=true): ∀l,l∈t.opn→l.length<4611686018427387904:=fun l hl=>by
 obtain⟨h1,h2⟩:=rising_iff.1 (trapB_rise h hl)
 have hc:=(trapB_ok h).cc
 have:=pair_lenL (lo:=0) (n:=4) h1 fun x hx=>by have:=h2 x hx;omega
 omega
structure ShortT(t:CTrap):Prop where
 opn:t.opn.length<4611686018427387904
 words:t.words.length<4611686018427387904
 each: ∀l,l∈t.opn→l.length<4611686018427387904
abbrev vT(t:CTrap):List V:=[i64 t.chambers,i64 t.times, .sl .no 1 (es cInts t.opn), .sl .no 4 (es cWord t.words)]
def placeB(t:CTrap)(i c:Int):Bool:=wiB i 0 (t.times-1)&&wiB c 0 (t.chambers-1)
def Mid(t:CTrap):Prop:=(-9000000000000000000≤t.chambers∧t.chambers≤9000000000000000000)∧ -9000000000000000000≤t.times∧t.times≤9000000000000000000
theorem TrapOk.mid {t:CTrap}(h:1≤t.chambers∧t.chambers≤4)(h':1≤t.times∧t.times≤5):Mid t:=⟨by omega,by omega⟩
theorem e_isPlace(t:CTrap)(hm:Mid t)(i c:Int)(lab s):den T 81 [.agg (vT t),i64 i,i64 c] lab s=some (.bool (placeB t i c),s):=by
 obtain⟨h1,h2⟩:=hm
 have w1:IntKind.i64.wrap (t.chambers-1)=t.chambers-1:=wi _ (by omega) (by omega)
 have w2:IntKind.i64.wrap (t.times-1)=t.times-1:=wi _ (by omega) (by omega)
 rw[den_fn t81 _ _ _ rfl]
 simp only[b81]
 unfold placeB
 cases h:wiB i 0 (t.times-1)<;>simp (maxSteps:=1000000) (disch:=first|omega|assumption|decide +kernel|(simp;done)|(simp;omega)|fail) [h,w1,w2]
theorem wordOk_place(t:CTrap)(w:CWord):wordOk t w=(placeB t w.time w.chamber&&(wiB w.lo 0 w.hi&&decide (w.hi≤40))):=by
 rw[Bool.eq_iff_iff,wordOk_iff]
 simp only[placeB,Bool.and_eq_true,wiB_iff,decide_eq_true_eq]
 omega
theorem e_isWord(t:CTrap)(hm:Mid t)(w:CWord)(lab s):den T 149 [.agg (vT t), .agg [i64 w.time,i64 w.chamber,i64 w.lo,i64 w.hi]] lab s=some (.bool (wordOk t w),s):=by
 have hp:=fun lab s=>e_isPlace t hm w.time w.chamber lab s
 rw[wordOk_place]
 rw[den_fn t149 _ _ _ rfl]
 simp only[b149]
 cases h:placeB t w.time w.chamber
 ·simp (maxSteps:=1000000) (disch:=first|omega|assumption|decide +kernel|(simp;done)|(simp;omega)|fail) [hp,h]
 ·cases h2:wiB w.lo 0 w.hi<;>simp (maxSteps:=1000000) (disch:=first|omega|assumption|decide +kernel|(simp;done)|(simp;omega)|fail) [hp,h,h2]
theorem e_isTime01(t:CTrap)(hm:Mid t)(i:Int)(lab s):den T 45 [.agg (vT t),i64 i] lab s=some (.bool (wiB i 0 (t.times-1)),s):=by
 obtain⟨h1,h2⟩:=hm
 have w2:IntKind.i64.wrap (t.times-1)=t.times-1:=wi _ (by omega) (by omega)
 rw[den_fn t45 _ _ _ rfl]
 simp only[b45]
 simp (maxSteps:=1000000) (disch:=first|omega|assumption|decide +kernel|(simp;done)|(simp;omega)|fail) [w2]
theorem e_isChamber01(t:CTrap)(hm:Mid t)(i:Int)(lab s):den T 59 [.agg (vT t),i64 i] lab s=some (.bool (wiB i 0 (t.chambers-1)),s):=by
 obtain⟨h1,h2⟩:=hm
 have w1:IntKind.i64.wrap (t.chambers-1)=t.chambers-1:=wi _ (by omega) (by omega)
 rw[den_fn t59 _ _ _ rfl]
 simp only[b59]
 simp (maxSteps:=1000000) (disch:=first|omega|assumption|decide +kernel|(simp;done)|(simp;omega)|fail) [w1]
theorem e_isWord01(t:CTrap)(hm:Mid t)(w:CWord)(lab s):den T 28 [.agg (vT t), .agg [i64 w.time,i64 w.chamber,i64 w.lo,i64 w.hi]] lab s=some (.bool (wordOk t w),s):=by
 have h1:=fun lab s=>e_isTime01 t hm w.time lab s
 have h2:=fun lab s=>e_isChamber01 t hm w.chamber lab s
 unfold wordOk
 rw[den_fn t28 _ _ _ rfl]
 simp only[b28]
 cases k1:wiB w.time 0 (t.times-1)
 ·simp (maxSteps:=1000000) (disch:=first|omega|assumption|decide +kernel|(simp;done)|(simp;omega)|fail) [h1,k1]
 ·cases k2:wiB w.chamber 0 (t.chambers-1)
  ·simp (maxSteps:=1000000) (disch:=first|omega|assumption|decide +kernel|(simp;done)|(simp;omega)|fail) [h1,h2,k1,k2]
  ·cases k3:wiB w.hi 0 40<;>simp (maxSteps:=1000000) (disch:=first|omega|assumption|decide +kernel|(simp;done)|(simp;omega)|fail) [h1,h2,k1,k2,k3]
end Go.Proofs.YtoedpegjoccnlaaGreat

/-
  Watch: counts.Check, the reference's Check (not built yet).
-/
namespace Go.Proofs.YtoedpegjoccnlaaGreat
open Go.Ab
theorem e_chk_l1(t:CTrap)(hm:Mid t)(l:List Int)(hl:l.length<4611686018427387904)(o:List (List Int))(n i:Int)(s:Stk):
 Run T b123l1 [(1, .ptr s.length 16 0),(4, .sl .no 1 (es cInt l)),(33, .sl .no 1 (es cInts o)),(34,i64 n),(35,i64 i),(39, .sl .no 1 (es cInt l)),(40,i64 l.length),(41,i64 0)] ([(16, .cell (vT t))]::s)=
  if rising l 0 (t.chambers-1)=true then some (.exit 2,[(1, .ptr s.length 16 0),(4, .sl .no 1 (es cInt l)),(33, .sl .no 1 (es cInts o)),(34,i64 n),(35,i64 i),(39, .sl .no 1 (es cInt l)),(40,i64 l.length),(41,i64 l.length),(42, .bool false)],[(16, .cell (vT t))]::s)
  else some (.ret,[(2,i64 10)],[(16, .cell (vT t))]::s):=by
 obtain⟨⟨m1,m2⟩,_⟩:=hm
 have w1:IntKind.i64.wrap (t.chambers-1)=t.chambers-1:=wi _ (by omega) (by omega)
 refine(loop_all (List.range l.length) (risingAt l 0 (t.chambers-1)) (fun k=>[(1, .ptr s.length 16 0),(4, .sl .no 1 (es cInt l)),(33, .sl .no 1 (es cInts o)),(34,i64 n),(35,i64 i),(39, .sl .no 1 (es cInt l)),(40,i64 l.length),(41,i64 k)]) (fun _=>[(16, .cell (vT t))]::s) (.ret,[(2,i64 10)],[(16, .cell (vT t))]::s) (.exit 2,[(1, .ptr s.length 16 0),(4, .sl .no 1 (es cInt l)),(33, .sl .no 1 (es cInts o)),(34,i64 n),(35,i64 i),(39, .sl .no 1 (es cInt l)),(40,i64 l.length),(41,i64 ((List.range l.length).length:Nat)),(42, .bool false)],[(16, .cell (vT t))]::s) (by simp) (by simp) ?_ (by simp) _ _ (by simp) (by simp)).trans (by simp only[List.length_range];rfl)
 intro k hk
 simp only[List.length_range]at hk
 simp only[List.getElem_range]
 have hg:l.getD k 0=l[k]:=by simp[List.getD,hk]
 have hk2:(k:Int)<l.length:=by omega
 cases h0:wiB l[k] 0 (t.chambers-1)
 ·simp (disch:=first|omega|assumption|decide +kernel|(simp;done)|(simp;omega)|fail) [hk,hk2,h0,w1,risingAt]
 by_cases h1:k=0
 ·subst h1
  simp (disch:=first|omega|assumption|decide +kernel|(simp;done)|(simp;omega)|fail) [hk,hk2,h0,w1,risingAt,wi]
 have hk1:k-1<l.length:=by omega
 have h1p:0<k:=by omega
 have h1q:(1:Int)≤k:=by omega
 have hg1:l.getD (k-1) 0=l[k-1]:=by simp[List.getD,hk1]
 have hn:((k:Int)-1).toNat=k-1:=by omega
 have wk1:IntKind.i64.wrap ((k:Int)-1)=(k:Int)-1:=wi _ (by omega) (by omega)
 have wk2:IntKind.i64.wrap ((k:Int)+1)=(k:Int)+1:=wi _ (by omega) (by omega)
 have hlt:(k:Int)-1<l.length:=by omega
 by_cases h2:l[k-1]<l[k]
 ·have h3: ¬l[k]≤l[k-1]:=by omega
  simp (disch:=first|omega|assumption|decide +kernel|(simp;done)|(simp;omega)|fail) [hk,hk2,hk1,h0,w1,h1,h1p,h1q,h2,h3,hn,hlt,wk1,wk2,risingAt]
 ·have h3:l[k]≤l[k-1]:=by omega
  simp (disch:=first|omega|assumption|decide +kernel|(simp;done)|(simp;omega)|fail) [hk,hk2,hk1,h0,w1,h1,h1p,h1q,h2,h3,hn,hlt,wk1,wk2,risingAt]
theorem e_chk_l0(t:CTrap)(hm:Mid t)(hs:ShortT t)(s:Stk):
 Run T b123l0 [(1, .ptr s.length 16 0),(33, .sl .no 1 (es cInts t.opn)),(34,i64 t.opn.length),(35,i64 0)] ([(16, .cell (vT t))]::s)=
  if allB (fun l=>rising l 0 (t.chambers-1)) t.opn=true then some (.exit 0,[(1, .ptr s.length 16 0),(33, .sl .no 1 (es cInts t.opn)),(34,i64 t.opn.length),(35,i64 t.opn.length),(36, .bool false)],[(16, .cell (vT t))]::s)
  else some (.ret,[(2,i64 10)],[(16, .cell (vT t))]::s):=by
 refine loop_all t.opn (fun l=>rising l 0 (t.chambers-1)) (fun k=>[(1, .ptr s.length 16 0),(33, .sl .no 1 (es cInts t.opn)),(34,i64 t.opn.length),(35,i64 k)]) (fun _=>[(16, .cell (vT t))]::s) _ _ (by simp) (by simp) ?_ (by simp) _ _ (by simp) (by simp)
 intro k hk
 have hlo:=hs.opn
 have hk2:(k:Int)<t.opn.length:=by omega
 have h:=e_chk_l1 t hm t.opn[k] (hs.each _ (List.getElem_mem hk)) t.opn t.opn.length k s
 cases hr:rising t.opn[k] 0 (t.chambers-1)
 ·rw[hr]at h
  simp only[Bool.false_eq_true,if_false]at h
  simp (maxSteps:=1000000) (disch:=first|omega|assumption|decide +kernel|(simp;done)|(simp;omega)|fail) [hk,hk2,h,hr,wk k (by omega)]
 ·rw[hr]at h
  simp only[if_true]at h
  simp (maxSteps:=1000000) (disch:=first|omega|assumption|decide +kernel|(simp;done)|(simp;omega)|fail) [hk,hk2,h,hr,wk k (by omega)]
theorem e_Check1(t:CTrap)(hm:Mid t)(w:CWord)(d l:Nat)(s:Stk)(h:sget s d l=some (.cell (vT t)))(hd: ¬d=s.length)(lab):
 den T 148 [.agg [i64 w.time,i64 w.chamber,i64 w.lo,i64 w.hi], .ptr d l 0] lab s=some (.bool (!wordOk t w),s):=by
 have hw:=fun lab s=>e_isWord t hm w lab s
 rw[den_fn t148 _ _ _ rfl]
 simp only[b148]
 cases k:wordOk t w<;>simp (maxSteps:=1000000) (disch:=first|omega|assumption|decide +kernel|(simp;done)|(simp;omega)|fail) [h,hd,hw,k]
theorem e_IndexW_l(t:CTrap)(hm:Mid t)(ws:List CWord)(d l:Nat)(s:Stk)(h:sget s d l=some (.cell (vT t)))(hd:d<s.length)(hl:ws.length<4611686018427387904):
 ∃g:Nat,Run T b165l0 [(0, .sl .no 4 (es cWord ws)),(1, .fn 148 [] [.ptr d l 0]),(7,i64 ws.length),(8,i64 0)] ([]::s)=
  if allB (fun w=>wordOk t w) ws=true then some (.exit 0,[(0, .sl .no 4 (es cWord ws)),(1, .fn 148 [] [.ptr d l 0]),(7,i64 ws.length),(8,i64 ws.length),(9, .bool false)],[]::s)else some (.ret,[(4,i64 (g:Nat))],[]::s):=by
 have hd2: ¬d=s.length:=by omega
 have hd3: ¬d=s.length+1:=by omega
 have hc: ∀(w:CWord) lab,den T 148 [.agg [i64 w.time,i64 w.chamber,i64 w.lo,i64 w.hi], .ptr d l 0] lab ([]::s)=some (.bool (!wordOk t w),[]::s):=fun w lab=>e_Check1 t hm w d l ([]::s) (by simp[hd2,h]) (by simp;omega) lab
 refine loop_all_g ws (fun w=>wordOk t w) (fun k=>[(0, .sl .no 4 (es cWord ws)),(1, .fn 148 [] [.ptr d l 0]),(7,i64 ws.length),(8,i64 k)]) (fun _=>[]::s) (fun g:Nat=>(.ret,[(4,i64 (g:Nat))],[]::s)) _ (by simp) (by simp[hd2]) ?_ (by simp) _ _ (by simp[hd2]) (by simp)
 intro k hk
 refine⟨k,?_⟩
 have hk2:(k:Int)<ws.length:=by omega
 have hc2:=fun lab=>hc ws[k] lab
 cases h2:wordOk t ws[k]
 ·simp (maxSteps:=1000000) (disch:=first|omega|assumption|decide +kernel|(simp;done)|(simp;omega)|fail) [hk,hk2,hc2,h2,hd2,hd3,wk k (by omega)]
 ·simp (maxSteps:=1000000) (disch:=first|omega|assumption|decide +kernel|(simp;done)|(simp;omega)|fail) [hk,hk2,hc2,h2,hd2,hd3,wk k (by omega)]
theorem e_ContainsW(t:CTrap)(hm:Mid t)(ws:List CWord)(d l:Nat)(s:Stk)(h:sget s d l=some (.cell (vT t)))(hd:d<s.length)(hl:ws.length<4611686018427387904)(lab):
 den T 147 [.sl .no 4 (es cWord ws), .fn 148 [] [.ptr d l 0]] lab s=some (.bool (!allB (fun w=>wordOk t w) ws),s):=by
 have hd2: ¬d=s.length:=by omega
 have hd3: ¬d=s.length+1:=by omega
 have hi: ∃r:Int,(∀lab,den T 165 [.sl .no 4 (es cWord ws), .fn 148 [] [.ptr d l 0]] lab ([]::s)=some (i64 r,[]::s))∧(0≤r↔allB (fun w=>wordOk t w) ws=false):=by
  obtain⟨g,hg⟩:=e_IndexW_l t hm ws d l ([]::s) (by simp[hd2,h]) (by simp;omega) hl
  refine⟨if allB (fun w=>wordOk t w) ws=true then -1 else g,?_,?_⟩
  rotate_left
  ·cases allB (fun w=>wordOk t w) ws<;>simp
  intro lab
  rw[den_fn t165 _ _ _ rfl]
  simp only[b165]
  cases h:allB (fun w=>wordOk t w) ws<;>simp (maxSteps:=1000000) (disch:=first|omega|assumption|decide +kernel|(simp;done)|(simp;omega)|fail) [hg,h,hd2,hd3]
 obtain⟨r,hr,hi⟩:=hi
 rw[den_fn t147 _ _ _ rfl]
 simp only[b147]
 by_cases h:0≤r
 ·simp (maxSteps:=1000000) (disch:=first|omega|assumption|decide +kernel|(simp;done)|(simp;omega)|fail) [hr,h,hi.1 h,hd2]
 ·have:allB (fun w=>wordOk t w) ws=true:=by cases hx:allB (fun w=>wordOk t w) ws;exact absurd (hi.2 hx) h;rfl
  simp (maxSteps:=1000000) (disch:=first|omega|assumption|decide +kernel|(simp;done)|(simp;omega)|fail) [hr,h,this,hd2]
set_option maxHeartbeats 1000000 in
theorem e_Check1C(t:CTrap)(hs:ShortT t)(lab s):den T 123 [.agg (vT t)] lab s=some (i64 (if trapB t=true then 0 else 10),s):=by
 have ho:=hs.opn
 have hw:=hs.words
 rw[den_fn t123 _ _ _ rfl]
 simp only[b123]
 unfold trapB
 cases c1:wiB t.chambers 1 4
 ·simp (maxSteps:=1000000) (disch:=first|omega|assumption|decide +kernel|(simp;done)|(simp;omega)|fail) [c1]
 cases c2:wiB t.times 1 5
 ·simp (maxSteps:=1000000) (disch:=first|omega|assumption|decide +kernel|(simp;done)|(simp;omega)|fail) [c1,c2]
 have hm:Mid t:=TrapOk.mid (wiB_iff.1 c1) (wiB_iff.1 c2)
 have w1:IntKind.i64.wrap (t.times-1)=t.times-1:=by have:=(wiB_iff.1 c2);exact wi _ (by omega) (by omega)
 by_cases c3:(t.opn.length:Int)=t.times-1
 rotate_left
 ·simp (maxSteps:=1000000) (disch:=first|omega|assumption|decide +kernel|(simp;done)|(simp;omega)|fail) [c1,c2,c3,w1]
 by_cases c4:t.words.length≤8
 rotate_left
 ·have c4':(8:Int)<t.words.length:=by omega
  simp (maxSteps:=1000000) (disch:=first|omega|assumption|decide +kernel|(simp;done)|(simp;omega)|fail) [c1,c2,c3,c4,c4',w1]
 have c4': ¬(8:Int)<t.words.length:=by omega
 have h0:=e_chk_l0 t hm hs s
 have hC:=fun(F:Ab.Loc) (hF:Loc.get F 16=some (.cell (vT t))) lab=>e_ContainsW t hm t.words s.length 16 (F::s) (by simp[hF]) (by simp) hw lab
 rw[c3]at h0
 cases c5:allB (fun l=>rising l 0 (t.chambers-1)) t.opn
 ·rw[c5]at h0
  simp only[Bool.false_eq_true,if_false]at h0
  simp (maxSteps:=1000000) (disch:=first|omega|assumption|decide +kernel|(simp;done)|(simp;omega)|fail) [c1,c2,c3,c4,c4',c5,w1,h0]
 ·rw[c5]at h0
  simp only[if_true]at h0
  cases c6:allB (fun w=>wordOk t w) t.words<;>simp (maxSteps:=1000000) (disch:=first|omega|assumption|decide +kernel|(simp;done)|(simp;omega)|fail) [c1,c2,c3,c4,c4',c5,c6,w1,h0,hC]
end Go.Proofs.YtoedpegjoccnlaaGreat

/-
  Watch: set, whole; open; Fish, Came, Judge (not built yet).
-/
namespace Go.Proofs.YtoedpegjoccnlaaGreat
open Go.Ab
theorem words_fold {α:Type} [Inhabited α](f:α→List Lim): ∀(l:List α) (D:List Int),(List.range l.length).foldl (fun A k=>(f (l.getD k default)).foldl limF A) D=(l.flatMap f).foldl limF D:=by
 intro l D
 have key: ∀m,m≤l.length→(List.range m).foldl (fun A k=>(f (l.getD k default)).foldl limF A) D=((l.take m).flatMap f).foldl limF D:=by
  intro m
  induction m with
  |zero=>intro _;simp
  |succ m ih=>
    intro hm
    have hm':m<l.length:=hm
    have e:l.getD m default=l[m]:=by simp[List.getD,hm']
    rw[rangeSucc_fold,ih (by omega),e,List.take_succ_eq_append_getElem hm',List.flatMap_append,List.foldl_append]
    simp
 have:=key l.length (Nat.le_refl _)
 rwa [List.take_length]at this
theorem setB_two(t:CTrap):setB t=(t.words.flatMap (limsW t.C)).foldl limF ((limsT t).foldl limF b0L):=by
 unfold setB lims;rw[List.foldl_append]
theorem limsT_door {t:CTrap}(h:TrapOk t):DoorB ((limsT t).foldl limF b0L):=DoorB.start.lims _ fun l hl=>by
 simp only[limsT,limsI,List.mem_flatMap,List.mem_range,List.mem_cons]at hl
 obtain⟨i,hi,rfl|⟨c,hc,hl⟩⟩:=hl
 ·exact⟨show 0<21 by decide,node_lt h hi (Nat.zero_le _),by dsimp only;omega⟩
 ·have:=limsC_lt h hi hc hl;omega
theorem setB_mag {t:CTrap}(h:TrapOk t):MagB (setB t) 10000000000000000:=by
 rw[setB_two]
 exact(mag_some h (limsT_door h) t.words fun _ h=>h).weaken (magN_small (by have:=h.words;omega))
theorem zeroV_trap(t:CTrap):(i64 t.chambers::i64 t.times:: .sl .no 1 (es cInts t.opn):: .sl .no 4 (es cWord t.words)::zeroV 441)=trapV t zeroB:=by
 simp only[trapV,zeroV,zeroB,List.map_replicate]
set_option maxHeartbeats 2000000 in
theorem e_set(t:CTrap)(h:TrapOk t)(hop: ∀l,l∈t.opn→l.length<4611686018427387904)(F:Ab.Loc)(s:Stk)(lab:Nat)(hF:Loc.get F lab=none):
 den T 94 [.agg (vT t),i64 (-1)] lab (F::s)=some (.ptr s.length lab 0,Loc.put F lab (.cell (trapV t (setB t)))::s):=by
 have h0:=e_set_l0 t (F::s)
 have h2:=e_set_l2 t h hop (F::s)
 have h4:=e_set_l4 t h _ (limsT_door h) (F::s)
 rw[words_fold,←setB_two]at h4
 rw[←limsT_fold]at h2
 rw[fill_all]at h0
 have ht:=h.tt
 have eT:((t.T:Nat):Int)=t.times:=by have:t.T=t.times.toNat:=rfl;omega
 simp only[List.length_range,List.length_cons,eT]at h0 h2 h4
 have hz:=zeroV_trap t
 generalize (limsT t).foldl limF b0L=D at*
 generalize setB t=E at*
 generalize b0L=B0 at*
 rw[den_fn t94 _ _ _ rfl]
 simp only[b94]
 simp (maxSteps:=1000000) (disch:=first|omega|assumption|decide +kernel|(simp;done)|(simp;omega)|fail) [h0,h2,h4,hz,hF]
def askT(t:CTrap)(is:Bool):Int:=if trapB t=true then(if is=true then 0 else 1)else 10
theorem e_askC1(t:CTrap)(hs:ShortT t)(is:Bool)(lab s):den T 93 [.agg (vT t), .bool is] lab s=some (i64 (askT t is),s):=by
 have hc:=fun lab s=>e_Check1C t hs lab s
 unfold askT
 rw[den_fn t93 _ _ _ rfl]
 simp only[b93]
 cases h:trapB t<;>cases is<;>simp (maxSteps:=1000000) (disch:=first|omega|assumption|decide +kernel|(simp;done)|(simp;omega)|fail) [hc,h]
def openT(t:CTrap)(is:Bool):Int:=if askT t is=0 then(if clashB (setB t)=true then 3 else 0)else askT t is
theorem ask_trap {t:CTrap} {is:Bool}(h:askT t is=0):trapB t=true∧is=true:=by
 unfold askT at h
 cases h1:trapB t
 ·rw[h1]at h;simp at h
 ·cases is
  ·rw[h1]at h;simp at h
  ·exact⟨rfl,rfl⟩
set_option maxHeartbeats 1000000 in
theorem e_open_no(t:CTrap)(hs:ShortT t)(is:Bool)(h: ¬openT t is=0)(F:Ab.Loc)(s:Stk)(lab:Nat):den T 80 [.agg (vT t), .bool is] lab (F::s)=some (.tup [.nilp,i64 (openT t is)],F::s):=by
 have ha:=fun lab s=>e_askC1 t hs is lab s
 unfold openT at h⊢
 rw[den_fn t80 _ _ _ rfl]
 simp only[b80]
 by_cases h1:askT t is=0
 ·rw[if_pos h1]at h⊢
  obtain⟨k1,k2⟩:=ask_trap h1
  have hok:=trapB_ok k1
  cases hc:clashB (setB t)
  ·rw[hc]at h;simp at h
  have hS:=fun(G:Ab.Loc) lab hG=>e_set t hok (trapB_open k1) G (F::s) lab hG
  have hcl:=fun(G:Ab.Loc) lab (hG:Loc.get G 240=some (.cell (trapV t (setB t))))=>e_clash t (F::s).length 240 (setB t) (setB_mag hok).len (G::F::s) (by simp) (by simp[hG]) lab
  rw[hc]at hcl
  simp only[List.length_cons]at hcl hS
  generalize setB t=B at*
  simp (maxSteps:=1000000) (disch:=first|omega|assumption|decide +kernel|(simp;done)|(simp;omega)|fail) [ha,h1,hS,hcl]
 ·rw[if_neg h1]
  simp (maxSteps:=1000000) (disch:=first|omega|assumption|decide +kernel|(simp;done)|(simp;omega)|fail) [ha,h1]
set_option maxHeartbeats 1000000 in
theorem e_open_ok(t:CTrap)(hs:ShortT t)(is:Bool)(h:openT t is=0)(F:Ab.Loc)(s:Stk)(lab:Nat)(hF:Loc.get F lab=none):den T 80 [.agg (vT t), .bool is] lab (F::s)=some (.tup [.ptr s.length lab 0,i64 0],Loc.put F lab (.cell (trapV t (setB t)))::s):=by
 have ha:=fun lab s=>e_askC1 t hs is lab s
 unfold openT at h
 by_cases h1:askT t is=0
 rotate_left
 ·rw[if_neg h1]at h;exact absurd h h1
 rw[if_pos h1]at h
 obtain⟨k1,k2⟩:=ask_trap h1
 have hok:=trapB_ok k1
 have hc:clashB (setB t)=false:=by cases hc:clashB (setB t);rfl;rw[hc]at h;simp at h
 have hS:=fun(G:Ab.Loc) lab hG=>e_set t hok (trapB_open k1) G (F::s) lab hG
 have hcl:=fun(G:Ab.Loc) lab (hG:Loc.get G 240=some (.cell (trapV t (setB t))))=>e_clash t (F::s).length 240 (setB t) (setB_mag hok).len (G::F::s) (by simp) (by simp[hG]) lab
 rw[hc]at hcl
 simp only[List.length_cons]at hcl hS
 generalize setB t=B at*
 rw[den_fn t80 _ _ _ rfl]
 simp only[b80]
 simp (maxSteps:=1000000) (disch:=first|omega|assumption|decide +kernel|(simp;done)|(simp;omega)|fail) [ha,h1,hS,hcl,hF]
end Go.Proofs.YtoedpegjoccnlaaGreat

/-
  Watch: Fish, Came, Judge of counts (not built yet).
-/
namespace Go.Proofs.YtoedpegjoccnlaaGreat
open Go.Ab
theorem openT_ok {t:CTrap} {is:Bool}(h:openT t is=0):trapB t=true∧is=true∧ ∃x,Sol t x:=by
 unfold openT at h
 by_cases h1:askT t is=0
 ·rw[if_pos h1]at h
  obtain⟨k1,k2⟩:=ask_trap h1
  refine⟨k1,k2,(clash_iff (trapB_ok k1)).1 ?_⟩
  cases hc:clashB (setB t)
  ·rfl
  ·rw[hc]at h;simp at h
 ·rw[if_neg h1]at h;exact absurd h h1
theorem openT_of {t:CTrap}(h:trapB t=true) {is:Bool}:openT t is=if is=true then(if isOneB t=true then 0 else 3)else 1:=by
 unfold openT askT
 rw[h]
 cases is
 ·simp
 ·have h1:=clash_iff (trapB_ok h)
  have h2:=isOne_iff (trapB_ok h)
  cases hc:clashB (setB t)
  ·have:isOneB t=true:=h2.2 (h1.1 hc)
   simp[this]
  ·have:isOneB t=false:=by
    cases ho:isOneB t
    ·rfl
    ·have:=h1.2 (h2.1 ho);rw[hc]at this;cases this
   simp[this]
theorem trapB_mid {t:CTrap}(h:trapB t=true):Mid t:=TrapOk.mid (trapB_ok h).cc (trapB_ok h).tt
theorem e_fish(t:CTrap)(h:TrapOk t)(d l:Nat)(i c:Nat)(hi:i<t.T)(hc:c<t.C)(s:Stk)(hd2:d<s.length)(hs:sget s d l=some (.cell (trapV t (setB t))))(lab):
 den T 82 [.ptr d l 0,i64 i,i64 c] lab s=some (.agg [i64 (betwS (setB t) (nodeN t.C i (c+1)) (nodeN t.C i c)).lo,i64 (betwS (setB t) (nodeN t.C i (c+1)) (nodeN t.C i c)).hi],s):=by
 have hd: ¬d=s.length:=by omega
 have hcc:=h.cc
 have e1:t.C=t.chambers.toNat:=rfl
 have n1:=fun(F:Ab.Loc) lab=>e_nodeI t (setB t) h d l i c hi (Nat.le_of_lt hc) i c rfl rfl (F::s) (by simp;omega) (by rw[sget_cons,if_neg hd];exact hs) lab
 have n2:=fun(F:Ab.Loc) lab=>e_nodeI t (setB t) h d l i (c+1) hi (show c+1≤t.C from hc) i ((c:Int)+1) rfl rfl (F::s) (by simp;omega) (by rw[sget_cons,if_neg hd];exact hs) lab
 have hb:=fun(F:Ab.Loc) lab=>e_betw t (nodeN t.C i (c+1)) (nodeN t.C i c) (node_lt h hi (show c+1≤t.C from hc)) (node_lt h hi (Nat.le_of_lt hc)) d l (setB t) (setB_mag h) (F::s) (by simp;omega) (by rw[sget_cons,if_neg hd];exact hs) lab
 have w1:IntKind.i64.wrap ((c:Int)+1)=(c:Int)+1:=wi _ (by omega) (by omega)
 generalize betwS (setB t) (nodeN t.C i (c+1)) (nodeN t.C i c)=b at*
 generalize nodeN t.C i (c+1)=x at*
 generalize nodeN t.C i c=y at*
 rw[den_fn t82 _ _ _ rfl]
 simp only[b82]
 simp (maxSteps:=1000000) (disch:=first|omega|assumption|decide +kernel|(simp;done)|(simp;omega)|fail) [orSlow_none,hd,n1,n2,hb,w1]
def fishC(t:CTrap)(i c:Int):CSp×Int:=if openT t (placeB t i c)=0 then(difR t i.toNat c.toNat i.toNat (c.toNat+1),0)else(⟨0,0⟩,openT t (placeB t i c))
set_option maxHeartbeats 1000000 in
theorem e_Fish(t:CTrap)(hs:ShortT t)(hB:trapB t=true)(i c:Int)(lab s):den T 55 [.agg (vT t),i64 i,i64 c] lab s=some (.tup [.agg [i64 (fishC t i c).1.lo,i64 (fishC t i c).1.hi],i64 (fishC t i c).2],s):=by
 have hp:=fun lab s=>e_isPlace t (trapB_mid hB) i c lab s
 unfold fishC
 rw[den_fn t55 _ _ _ rfl]
 simp only[b55]
 by_cases h:openT t (placeB t i c)=0
 ·obtain⟨k1,k2,k3⟩:=openT_ok h
  have hok:=trapB_ok k1
  have ho:=fun(F:Ab.Loc) lab hF=>e_open_ok t hs (placeB t i c) h F s lab hF
  have hb:(0≤i∧i≤t.times-1)∧0≤c∧c≤t.chambers-1:=by simpa only[placeB,Bool.and_eq_true,wiB_iff]using k2
  have e1:t.C=t.chambers.toNat:=rfl
  have e2:t.T=t.times.toNat:=rfl
  obtain⟨i,rfl⟩: ∃n:Nat,i=n:=⟨i.toNat,by omega⟩
  obtain⟨c,rfl⟩: ∃n:Nat,c=n:=⟨c.toNat,by omega⟩
  have hf:=fun(F:Ab.Loc) (hF:Loc.get F 256=some (.cell (trapV t (setB t)))) lab=>e_fish t hok s.length 256 i c (by omega) (by omega) (F::s) (by simp) (by simp[hF]) lab
  rw[betw_eq hok k3 (by omega) (by omega) (by omega) (by omega)]at hf
  rw[if_pos h]
  rw[k2]at ho
  simp only[Int.toNat_natCast]
  generalize difR t i c i (c+1)=b at*
  generalize setB t=B at*
  simp (maxSteps:=1000000) (disch:=first|omega|assumption|decide +kernel|(simp;done)|(simp;omega)|fail) [orSlow_none,hp,k2,ho,hf]
 ·have ho:=fun(F:Ab.Loc) lab=>e_open_no t hs (placeB t i c) h F s lab
  rw[if_neg h]
  generalize placeB t i c=p at*
  simp (maxSteps:=1000000) (disch:=first|omega|assumption|decide +kernel|(simp;done)|(simp;omega)|fail) [orSlow_none,hp,ho,h]
end Go.Proofs.YtoedpegjoccnlaaGreat

/-
  Watch: counts.Truth, hasTruth (not built yet).
-/
namespace Go.Proofs.YtoedpegjoccnlaaGreat
open Go.Ab
def rowT(t:CTrap)(i c:Nat):Int:=(betwS (setB t) 0 (nodeN t.C i c)).lo-(betwS (setB t) 0 (nodeN t.C i (c+1))).lo
def rowTS(t:CTrap)(i:Nat)(R:List Int)(c:Nat):List Int:=R.set c (rowT t i c)
def rowTL(t:CTrap)(i:Nat):List Int:=(List.range t.C).foldl (rowTS t i) (List.replicate t.C 0)
theorem rowTS_len(t:CTrap)(i:Nat): ∀(l:List Nat) (R:List Int),(l.foldl (rowTS t i) R).length=R.length
 |[],_=>rfl
 |c::l,R=>by rw[List.foldl_cons,rowTS_len t i l];simp[rowTS]
@[simp] theorem rowTL_len(t i):(rowTL t i).length=t.C:=by unfold rowTL;rw[rowTS_len];simp
end Go.Proofs.YtoedpegjoccnlaaGreat

/-
  Watch: counts.Truth and hasTruth.
-/
namespace Go.Proofs.YtoedpegjoccnlaaGreat
open Go.Ab
end Go.Proofs.YtoedpegjoccnlaaGreat

/-
  Watch: the reference of counts: a matrix of spans in a lower frame; cut and differ.
-/
namespace Go.Proofs.YtoedpegjoccnlaaGreat
open Go.Ab
theorem sget_put_other: ∀(s:Stk) (d k l:Nat) (x:Entry),l≠k→sget (sput s d k x) d l=sget s d l
 |[],_,_,_,_,_=>rfl
 |F::s,d,k,l,x,hn=>by
   by_cases e:d=s.length
   ·simp only[sget,sput,if_pos e]
    have: ∀F:Ab.Loc,Loc.get (Loc.put F k x) l=Loc.get F l:=fun F=>by
     induction F with
     |nil=>simp[Loc.put,Loc.get,hn]
     |cons a F ih=>
       obtain⟨m,z⟩:=a
       by_cases e1:k=m
       ·subst e1;simp[Loc.put,Loc.get,hn]
       ·by_cases e2:l=m
        ·subst e2;simp[Loc.put,Loc.get,e1]
        ·simp only[Loc.put,Loc.get,if_neg e1,if_neg e2,ih]
    exact this F
   ·simp only[sget,sput,sput_length,if_neg e,sget_put_other s d k l x hn]
def putM(s:Stk)(d:Nat):Nat→CMat→Stk
 |_,[]=>s
 |b,r::R=>sput (putM s d (b+1000) R) d b (.arr 2 (es cCSp r))
@[simp] theorem putM_length(s d): ∀(R:CMat) (b:Nat),(putM s d b R).length=s.length
 |[],_=>rfl
 |r::R,b=>by rw[putM,sput_length,putM_length s d R]
def ptrM(d l z n:Nat):List (List V):=(List.range n).map fun i=>[.asl d (l+1000*i) 2 z 0 z]
@[simp] theorem ptrM_length(d l z n):(ptrM d l z n).length=n:=by simp[ptrM]
@[simp] theorem ptrM_get? (d l z n i:Nat):(ptrM d l z n)[i]? =if i<n then some [.asl d (l+1000*i) 2 z 0 z] else none:=by
 unfold ptrM;rw[List.getElem?_map]
 by_cases h:i<n<;>simp[h]
@[simp] theorem ptrM_get(d l z n i:Nat)(h:i<(ptrM d l z n).length):(ptrM d l z n)[i]=[.asl d (l+1000*i) 2 z 0 z]:=by simp[ptrM]
end Go.Proofs.YtoedpegjoccnlaaGreat

/-
  Watch: the reference's differ.
-/
namespace Go.Proofs.YtoedpegjoccnlaaGreat
open Go.Ab
end Go.Proofs.YtoedpegjoccnlaaGreat

/-
  Watch: the reference's settle: its loop over chambers.
-/
namespace Go.Proofs.YtoedpegjoccnlaaGreat
open Go.Ab
section
variable (t : CTrap) (C n : Nat) (d l b : Nat) (s : Stk) (S S1 S2 : CMat) (k : Nat) (ch c1 c2 : Bool)
end
section
variable (t : CTrap) (h : TrapOk t) (hop : ∀ l, l ∈ t.opn → l.length < 4611686018427387904) (d l b : Nat) (s : Stk) (hd : d < s.length) (hl : ∀ i, i < t.T → l ≠ b + 1000 * i) (hs : sget s d l = some (.arr 1 (ptrM d b (t.C + 1) t.T)))
include h hop hd hl hs
end
end Go.Proofs.YtoedpegjoccnlaaGreat

/-
  Watch: the reference's settle: a pass (not built yet).
-/
namespace Go.Proofs.YtoedpegjoccnlaaGreat
open Go.Ab
section
variable (t : CTrap) (h : TrapOk t) (hop : ∀ l, l ∈ t.opn → l.length < 4611686018427387904) (d l b : Nat) (s : Stk) (hd : d < s.length) (hl : ∀ i, i < t.T → l ≠ b + 1000 * i) (hs : sget s d l = some (.arr 1 (ptrM d b (t.C + 1) t.T)))
include h hop hd hl hs
end
end Go.Proofs.YtoedpegjoccnlaaGreat

/-
  Watch: the reference's settle, whole.
-/
namespace Go.Proofs.YtoedpegjoccnlaaGreat
open Go.Ab
section
variable (t : CTrap) (h : TrapOk t) (hop : ∀ l, l ∈ t.opn → l.length < 4611686018427387904) (d l b : Nat) (s : Stk) (hd : d < s.length) (hl : ∀ i, i < t.T → l ≠ b + 1000 * i) (hs : sget s d l = some (.arr 1 (ptrM d b (t.C + 1) t.T)))
include h hop hd hl hs
end
end Go.Proofs.YtoedpegjoccnlaaGreat

/-
  Watch: the reference's free.
-/
namespace Go.Proofs.YtoedpegjoccnlaaGreat
open Go.Ab
end Go.Proofs.YtoedpegjoccnlaaGreat

/-
  Watch: the reference's free, whole (not built yet).
-/
namespace Go.Proofs.YtoedpegjoccnlaaGreat
open Go.Ab
def FreeAt(F:Ab.Loc)(lab:Nat):Prop:= ∀i,i≤5→Loc.get F (lab+1000*i)=none
theorem FreeAt.all {F lab}(h:FreeAt F lab):Loc.get F lab=none∧Loc.get F (lab+1000)=none∧Loc.get F (lab+2000)=none∧Loc.get F (lab+3000)=none∧Loc.get F (lab+4000)=none∧Loc.get F (lab+5000)=none:=
 ⟨h 0 (by omega),h 1 (by omega),h 2 (by omega),h 3 (by omega),h 4 (by omega),h 5 (by omega)⟩
end Go.Proofs.YtoedpegjoccnlaaGreat

/-
  Watch: the reference's IsOne (not built yet).
-/
namespace Go.Proofs.YtoedpegjoccnlaaGreat
open Go.Ab
end Go.Proofs.YtoedpegjoccnlaaGreat

/-
  Watch: the reference's Check, ask, known.
-/
namespace Go.Proofs.YtoedpegjoccnlaaGreat
open Go.Ab
theorem e_chk01_l0(t:CTrap)(hm:Mid t)(hs:ShortT t)(s:Stk):
 Run T b21l0 [(1, .ptr s.length 16 0),(3,i64 0)] ([(16, .cell (vT t))]::s)=
  if allB (fun l=>rising l 0 (t.chambers-1)) t.opn=true then some (.exit 0,[(1, .ptr s.length 16 0),(3,i64 t.opn.length),(34, .bool false)],[(16, .cell (vT t))]::s)
  else some (.ret,[(2,i64 10)],[(16, .cell (vT t))]::s):=by
 obtain⟨⟨m1,m2⟩,_⟩:=hm
 have w1:IntKind.i64.wrap (t.chambers-1)=t.chambers-1:=wi _ (by omega) (by omega)
 refine loop_all t.opn (fun l=>rising l 0 (t.chambers-1)) (fun k=>[(1, .ptr s.length 16 0),(3,i64 k)]) (fun _=>[(16, .cell (vT t))]::s) _ _ (by simp) (by simp) ?_ (by simp) _ _ (by simp) (by simp)
 intro k hk
 have hlo:=hs.opn
 have hk2:(k:Int)<t.opn.length:=by omega
 have hl:=hs.each _ (List.getElem_mem hk)
 cases hr:rising t.opn[k] 0 (t.chambers-1)
 ·simp (maxSteps:=1000000) (disch:=first|omega|assumption|decide +kernel|(simp;done)|(simp;omega)|fail) [run_drawnK,hk,hk2,hl,hr,w1,wk k (by omega)]
 ·simp (maxSteps:=1000000) (disch:=first|omega|assumption|decide +kernel|(simp;done)|(simp;omega)|fail) [run_drawnK,hk,hk2,hl,hr,w1,wk k (by omega)]
theorem e_chk01_l1(t:CTrap)(hm:Mid t)(hs:ShortT t)(s:Stk):
 Run T b21l1 [(1, .ptr s.length 16 0),(4,i64 0)] ([(16, .cell (vT t))]::s)=
  if allB (fun w=>wordOk t w) t.words=true then some (.exit 2,[(1, .ptr s.length 16 0),(4,i64 t.words.length),(51, .bool false)],[(16, .cell (vT t))]::s)
  else some (.ret,[(2,i64 10)],[(16, .cell (vT t))]::s):=by
 refine loop_all t.words (fun w=>wordOk t w) (fun k=>[(1, .ptr s.length 16 0),(4,i64 k)]) (fun _=>[(16, .cell (vT t))]::s) _ _ (by simp) (by simp) ?_ (by simp) _ _ (by simp) (by simp)
 intro k hk
 have hlo:=hs.words
 have hk2:(k:Int)<t.words.length:=by omega
 have hw:=fun lab s=>e_isWord01 t hm t.words[k] lab s
 cases hr:wordOk t t.words[k]
 ·simp (maxSteps:=1000000) (disch:=first|omega|assumption|decide +kernel|(simp;done)|(simp;omega)|fail) [run_drawnK,hk,hk2,hw,hr,wk k (by omega)]
 ·simp (maxSteps:=1000000) (disch:=first|omega|assumption|decide +kernel|(simp;done)|(simp;omega)|fail) [run_drawnK,hk,hk2,hw,hr,wk k (by omega)]
set_option maxHeartbeats 1000000 in
theorem e_Check01(t:CTrap)(hs:ShortT t)(lab s):den T 21 [.agg (vT t)] lab s=some (i64 (if trapB t=true then 0 else 10),s):=by
 have ho:=hs.opn
 have hw:=hs.words
 rw[den_fn t21 _ _ _ rfl]
 simp only[b21]
 unfold trapB
 cases c1:wiB t.chambers 1 4
 ·simp (maxSteps:=1000000) (disch:=first|omega|assumption|decide +kernel|(simp;done)|(simp;omega)|fail) [c1]
 cases c2:wiB t.times 1 5
 ·simp (maxSteps:=1000000) (disch:=first|omega|assumption|decide +kernel|(simp;done)|(simp;omega)|fail) [c1,c2]
 have hm:Mid t:=TrapOk.mid (wiB_iff.1 c1) (wiB_iff.1 c2)
 have w1:IntKind.i64.wrap (t.times-1)=t.times-1:=by have:=(wiB_iff.1 c2);exact wi _ (by omega) (by omega)
 by_cases c3:(t.opn.length:Int)=t.times-1
 rotate_left
 ·simp (maxSteps:=1000000) (disch:=first|omega|assumption|decide +kernel|(simp;done)|(simp;omega)|fail) [c1,c2,c3,w1]
 by_cases c4:t.words.length≤8
 rotate_left
 ·have c4':(8:Int)<t.words.length:=by omega
  simp (maxSteps:=1000000) (disch:=first|omega|assumption|decide +kernel|(simp;done)|(simp;omega)|fail) [c1,c2,c3,c4,c4',w1]
 have c4': ¬(8:Int)<t.words.length:=by omega
 have h0:=e_chk01_l0 t hm hs s
 have h1:=e_chk01_l1 t hm hs s
 cases c5:allB (fun l=>rising l 0 (t.chambers-1)) t.opn
 ·rw[c5]at h0
  simp only[Bool.false_eq_true,if_false]at h0
  simp (maxSteps:=1000000) (disch:=first|omega|assumption|decide +kernel|(simp;done)|(simp;omega)|fail) [c1,c2,c3,c4,c4',c5,w1,h0]
 ·rw[c5]at h0
  simp only[if_true]at h0
  cases c6:allB (fun w=>wordOk t w) t.words
  ·rw[c6]at h1
   simp only[Bool.false_eq_true,if_false]at h1
   simp (maxSteps:=1000000) (disch:=first|omega|assumption|decide +kernel|(simp;done)|(simp;omega)|fail) [c1,c2,c3,c4,c4',c5,c6,w1,h0,h1]
  ·rw[c6]at h1
   simp only[if_true]at h1
   simp (maxSteps:=1000000) (disch:=first|omega|assumption|decide +kernel|(simp;done)|(simp;omega)|fail) [c1,c2,c3,c4,c4',c5,c6,w1,h0,h1]
end Go.Proofs.YtoedpegjoccnlaaGreat

/-
  Watch: what a matrix in a frame answers.
-/
namespace Go.Proofs.YtoedpegjoccnlaaGreat
open Go.Ab
theorem distinct_append {a b:List Nat}(h1:Ab.distinct a=true)(h2:Ab.distinct b=true)(h: ∀x,x∈a→x∉b):Ab.distinct (a ++b)=true:=by
 induction a with
 |nil=>exact h2
 |cons x a ih=>
   simp only[List.cons_append,Ab.distinct,Bool.and_eq_true,Bool.not_eq_true']at h1⊢
   refine⟨?_,ih h1.2 fun y hy=>h y (List.mem_cons_of_mem _ hy)⟩
   have hx:=h x (List.mem_cons_self ..)
   have h0:=h1.1
   simp only[List.contains_eq_mem,decide_eq_false_iff_not]at h0⊢
   intro hm
   rcases List.mem_append.1 hm with hm|hm
   ·exact h0 hm
   ·exact hx hm
end Go.Proofs.YtoedpegjoccnlaaGreat

/-
  Watch: the reference's difference (not built yet).
-/
namespace Go.Proofs.YtoedpegjoccnlaaGreat
open Go.Ab
section
variable (d z : Nat) (S1 S2 : CMat) (o : CSp) (h1 : S1.length ≤ 5) (h2 : S2.length ≤ 5)
end
end Go.Proofs.YtoedpegjoccnlaaGreat

/-
  Watch: the reference's difference: a round (not built yet).
-/
namespace Go.Proofs.YtoedpegjoccnlaaGreat
open Go.Ab
end Go.Proofs.YtoedpegjoccnlaaGreat

/-
  Watch: the reference's difference, whole (not built yet).
-/
namespace Go.Proofs.YtoedpegjoccnlaaGreat
open Go.Ab
section
variable (t : CTrap) (h : TrapOk t) (hop : ∀ l, l ∈ t.opn → l.length < 4611686018427387904) (s : Stk) (i c j d : Nat) (hi : i < t.T) (hc : c ≤ t.C) (hj : j < t.T) (hd : d ≤ t.C)
include h hop hi hc hj hd
end
end Go.Proofs.YtoedpegjoccnlaaGreat

/-
  Watch: the reference's FishOf, Came.
-/
namespace Go.Proofs.YtoedpegjoccnlaaGreat
open Go.Ab
end Go.Proofs.YtoedpegjoccnlaaGreat

/-
  Watch: the reference's Copy (not built yet).
-/
namespace Go.Proofs.YtoedpegjoccnlaaGreat
open Go.Ab
def cpyF(t:CTrap)(d:Nat)(wE:Ab.Loc)(wv:V)(a:List (List Int)):Ab.Loc:=
 (16, .cell (vT t))::(32, .cell [i64 0,i64 0, .sl .full 1 [], .sl .full 4 []])::(wE ++[(48, .cell [i64 t.chambers,i64 t.times, .sl (.own d 52) 1 (es cInts a),wv]),(52, .tok a.length)])
set_option maxHeartbeats 2000000 in
theorem e_Copy_l0(t:CTrap)(hs:ShortT t)(ho:t.opn.length<5864062014800)(he: ∀l,l∈t.opn→l.length<17592186044416)(hw:t.words=[])(s:Stk):
 Run T b37l0 [(1, .ptr s.length 16 0),(2, .ptr s.length 32 0),(3, .ptr s.length 48 0),(4,i64 0)] (cpyF t s.length [] (.sl .full 4 []) []::s)=
  some (.exit 0,[(1, .ptr s.length 16 0),(2, .ptr s.length 32 0),(3, .ptr s.length 48 0),(4,i64 t.opn.length),(18, .bool false)],cpyF t s.length [] (.sl .full 4 []) t.opn::s):=by
 have key:=loop_fold (T:=T) (live:=[1,2,3,4]) (keep:=[16,32,48,52,144,192]) (b:=d37l0) t.opn (fun k (a:List (List Int))=>a.length=k) (fun a x=>a ++[x])
  (fun k _=>[(1, .ptr s.length 16 0),(2, .ptr s.length 32 0),(3, .ptr s.length 48 0),(4,i64 k)]) (fun _ a=>cpyF t s.length [] (.sl .full 4 []) a::s)
  (fun a=>(.exit 0,[(1, .ptr s.length 16 0),(2, .ptr s.length 32 0),(3, .ptr s.length 48 0),(4,i64 t.opn.length),(18, .bool false)],cpyF t s.length [] (.sl .full 4 []) a::s))
  (by simp) ?_ ?_ ?_ [] (by simp) [(1, .ptr s.length 16 0),(2, .ptr s.length 32 0),(3, .ptr s.length 48 0),(4,i64 0)] (cpyF t s.length [] (.sl .full 4 []) []::s) (by simp) (by simp[cpyF])
 ·have e: ∀(l a:List (List Int)),l.foldl (fun a x=>a ++[x]) a=a ++l:=by
   intro l
   induction l with
   |nil=>simp
   |cons x r ih=>intro a;simp[ih]
  rw[e,List.nil_append]at key
  exact key
 ·intro k a hk hi
  subst hi
  have hx:=he t.opn[a.length] (List.getElem_mem hk)
  have hk2:(a.length:Int)<t.opn.length:=by omega
  have e0: ∀x,es cInts a ++[[.sl .no 1 (es cInt x)]]=es cInts (a ++[x]):=fun x=>by simp[es]
  generalize hR:t.opn[a.length]=R at*
  by_cases h0:R=[]
  ·subst h0
   have e0:=e0 []
   simp only[es_nil]at e0
   simp (maxSteps:=1000000) (disch:=first|omega|assumption|decide +kernel|(simp;done)|(simp;omega)|fail) [run_drawnK,cpyF,hk,hk2,hR,e0,appD_full_nil,appK_own1,wk a.length (by omega)]
  ·have hne:es cInt R≠[]:=by simpa using h0
   simp (maxSteps:=1000000) (disch:=first|omega|assumption|decide +kernel|(simp;done)|(simp;omega)|fail) [run_drawnK,cpyF,hk,hk2,hR,e0,hne,appD_full,appK_own1,wk a.length (by omega)]
 ·intro k a hk hi
  simp[hi]
 ·intro a hi
  simp[cpyF]
set_option maxHeartbeats 2000000 in
theorem e_Copy_l1(t:CTrap)(hs:ShortT t)(ho:t.opn.length<5864062014800)(he: ∀l,l∈t.opn→l.length<17592186044416)(hw:t.words≠[])(s:Stk):
 Run T b37l0 [(1, .ptr s.length 16 0),(2, .ptr s.length 32 0),(3, .ptr s.length 48 0),(4,i64 0)] (cpyF t s.length [(192, .tok t.words.length)] (.sl (.own s.length 192) 4 (es cWord t.words)) []::s)=
  some (.exit 0,[(1, .ptr s.length 16 0),(2, .ptr s.length 32 0),(3, .ptr s.length 48 0),(4,i64 t.opn.length),(18, .bool false)],cpyF t s.length [(192, .tok t.words.length)] (.sl (.own s.length 192) 4 (es cWord t.words)) t.opn::s):=by
 have key:=loop_fold (T:=T) (live:=[1,2,3,4]) (keep:=[16,32,48,52,144,192]) (b:=d37l0) t.opn (fun k (a:List (List Int))=>a.length=k) (fun a x=>a ++[x])
  (fun k _=>[(1, .ptr s.length 16 0),(2, .ptr s.length 32 0),(3, .ptr s.length 48 0),(4,i64 k)]) (fun _ a=>cpyF t s.length [(192, .tok t.words.length)] (.sl (.own s.length 192) 4 (es cWord t.words)) a::s)
  (fun a=>(.exit 0,[(1, .ptr s.length 16 0),(2, .ptr s.length 32 0),(3, .ptr s.length 48 0),(4,i64 t.opn.length),(18, .bool false)],cpyF t s.length [(192, .tok t.words.length)] (.sl (.own s.length 192) 4 (es cWord t.words)) a::s))
  (by simp) ?_ ?_ ?_ [] (by simp) [(1, .ptr s.length 16 0),(2, .ptr s.length 32 0),(3, .ptr s.length 48 0),(4,i64 0)] (cpyF t s.length [(192, .tok t.words.length)] (.sl (.own s.length 192) 4 (es cWord t.words)) []::s) (by simp) (by simp[cpyF])
 ·have e: ∀(l a:List (List Int)),l.foldl (fun a x=>a ++[x]) a=a ++l:=by
   intro l
   induction l with
   |nil=>simp
   |cons x r ih=>intro a;simp[ih]
  rw[e,List.nil_append]at key
  exact key
 ·intro k a hk hi
  subst hi
  have hx:=he t.opn[a.length] (List.getElem_mem hk)
  have hk2:(a.length:Int)<t.opn.length:=by omega
  have e0: ∀x,es cInts a ++[[.sl .no 1 (es cInt x)]]=es cInts (a ++[x]):=fun x=>by simp[es]
  generalize hR:t.opn[a.length]=R at*
  by_cases h0:R=[]
  ·subst h0
   have e0:=e0 []
   simp only[es_nil]at e0
   simp (maxSteps:=1000000) (disch:=first|omega|assumption|decide +kernel|(simp;done)|(simp;omega)|fail) [run_drawnK,cpyF,hk,hk2,hR,e0,appD_full_nil,appK_own1,wk a.length (by omega)]
  ·have hne:es cInt R≠[]:=by simpa using h0
   simp (maxSteps:=1000000) (disch:=first|omega|assumption|decide +kernel|(simp;done)|(simp;omega)|fail) [run_drawnK,cpyF,hk,hk2,hR,e0,hne,appD_full,appK_own1,wk a.length (by omega)]
 ·intro k a hk hi
  simp[hi]
 ·intro a hi
  simp[cpyF]
set_option maxHeartbeats 2000000 in
theorem e_Copy01g_0(t:CTrap)(hs:ShortT t)(ho:t.opn.length<5864062014800)(he: ∀l,l∈t.opn→l.length<17592186044416)(hw:t.words=[])(loc:Ab.Loc)(s:Stk)(lab:Nat)(k0:loc.get lab=none):
 den T 37 [.agg (vT t)] lab (loc::s)=some (.agg [i64 t.chambers,i64 t.times, .sl (.own s.length lab) 1 (es cInts t.opn), .sl .full 4 []],loc.put lab (.tok t.opn.length)::s):=by
 have key:=e_Copy_l0 t hs ho he hw (loc::s)
 simp only[cpyF,List.length_cons,es_nil,List.length_nil,List.nil_append,List.cons_append]at key
 rw[den_fn t37 _ _ _ rfl]
 simp only[b37]
 simp (maxSteps:=6000000) (disch:=first|omega|assumption|decide +kernel|(simp;done)|(simp;omega)|fail) [run_drawnK,hw,appD_full_nil,key,k0]
set_option maxHeartbeats 2000000 in
theorem e_Copy01g_1(t:CTrap)(hs:ShortT t)(ho:t.opn.length<5864062014800)(hwl:t.words.length<4398046511104)(he: ∀l,l∈t.opn→l.length<17592186044416)(hw:t.words≠[])(loc:Ab.Loc)(s:Stk)(lab:Nat)(k0:loc.get lab=none)(k1:loc.get (lab+1000)=none):
 den T 37 [.agg (vT t)] lab (loc::s)=some (.agg [i64 t.chambers,i64 t.times, .sl (.own s.length lab) 1 (es cInts t.opn), .sl (.own s.length (lab+1000)) 4 (es cWord t.words)],(loc.put lab (.tok t.opn.length)).put (lab+1000) (.tok t.words.length)::s):=by
 have key:=e_Copy_l1 t hs ho he hw (loc::s)
 simp only[cpyF,List.length_cons,es_nil,List.length_nil,List.nil_append,List.cons_append]at key
 have hne:es cWord t.words≠[]:=by simpa using hw
 rw[den_fn t37 _ _ _ rfl]
 simp only[b37]
 simp (maxSteps:=6000000) (disch:=first|omega|assumption|decide +kernel|(simp;done)|(simp;omega)|fail) [run_drawnK,hne,appD_full,key,k0,k1]
theorem e_Copy01_0(t:CTrap)(hs:ShortT t)(ho:t.opn.length<1000000)(he: ∀l,l∈t.opn→l.length<1000000)(hw:t.words=[])(loc:Ab.Loc)(s:Stk)(lab:Nat)(k0:loc.get lab=none):
 den T 37 [.agg (vT t)] lab (loc::s)=some (.agg [i64 t.chambers,i64 t.times, .sl (.own s.length lab) 1 (es cInts t.opn), .sl .full 4 []],loc.put lab (.tok t.opn.length)::s):=
 e_Copy01g_0 t hs (by omega) (fun l hl=>by have:=he l hl;omega) hw loc s lab k0
theorem e_Copy01_1(t:CTrap)(hs:ShortT t)(ho:t.opn.length<1000000)(hwl:t.words.length<1000000)(he: ∀l,l∈t.opn→l.length<1000000)(hw:t.words≠[])(loc:Ab.Loc)(s:Stk)(lab:Nat)(k0:loc.get lab=none)(k1:loc.get (lab+1000)=none):
 den T 37 [.agg (vT t)] lab (loc::s)=some (.agg [i64 t.chambers,i64 t.times, .sl (.own s.length lab) 1 (es cInts t.opn), .sl (.own s.length (lab+1000)) 4 (es cWord t.words)],(loc.put lab (.tok t.opn.length)).put (lab+1000) (.tok t.words.length)::s):=
 e_Copy01g_1 t hs (by omega) (by omega) (fun l hl=>by have:=he l hl;omega) hw loc s lab k0 k1
end Go.Proofs.YtoedpegjoccnlaaGreat

/-
  Watch: the reference's Told, Judge.
-/
namespace Go.Proofs.YtoedpegjoccnlaaGreat
open Go.Ab
@[simp] theorem frzE_tok(l e loc r n):frzE l e loc r (some (.tok n))=(e,loc::r):=rfl
structure CopyT(t:CTrap):Prop where
 opn:t.opn.length<1000000
 words:t.words.length<1000000
 each: ∀l,l∈t.opn→l.length<1000000
theorem CopyT.short {t:CTrap}(h:CopyT t):ShortT t:=⟨by have:=h.opn;omega,by have:=h.words;omega,fun l hl=>by have:=h.each l hl;omega⟩
theorem trapB_copy {t:CTrap}(h:trapB t=true):CopyT t:=by
 have hok:=trapB_ok h
 have h1:=hok.opn
 have h2:=hok.tt
 have h3:=hok.words
 refine⟨by omega,by omega,fun l hl=> ?_⟩
 obtain⟨h1,h2⟩:=rising_iff.1 (trapB_rise h hl)
 have hc:=hok.cc
 have:=pair_lenL (lo:=0) (n:=4) h1 fun x hx=>by have:=h2 x hx;omega
 omega
set_option maxHeartbeats 2000000 in
theorem e_Told01(t:CTrap)(hc:CopyT t)(w:CWord)(lab s):den T 29 [.agg (vT t), .agg [i64 w.time,i64 w.chamber,i64 w.lo,i64 w.hi]] lab s=some (.agg (vT (toldT t w)),s):=by
 obtain⟨h1,h2,h3⟩:=hc
 have hs:ShortT t:=CopyT.short ⟨h1,h2,h3⟩
 have e0:es cWord t.words ++[[i64 w.time,i64 w.chamber,i64 w.lo,i64 w.hi]]=es cWord (t.words ++[w]):=by simp[es]
 unfold toldT
 by_cases hw:t.words=[]
 ·have hC:=fun(loc:Ab.Loc) lab k0=>e_Copy01_0 t hs h1 h3 hw loc s lab k0
  have e1:[[i64 w.time,i64 w.chamber,i64 w.lo,i64 w.hi]]=es cWord [w]:=rfl
  rw[hw,List.nil_append]
  rw[den_fn t29 _ _ _ rfl]
  simp only[b29]
  simp (maxSteps:=6000000) (disch:=first|omega|assumption|decide +kernel|(simp;done)|(simp;omega)|fail) [hC,e1,appK_full]
 ·have hC:=fun(loc:Ab.Loc) lab k0 k1=>e_Copy01_1 t hs h1 h2 h3 hw loc s lab k0 k1
  rw[den_fn t29 _ _ _ rfl]
  simp only[b29]
  simp (maxSteps:=6000000) (disch:=first|omega|assumption|decide +kernel|(simp;done)|(simp;omega)|fail) [hC,e0,appK_own1]
end Go.Proofs.YtoedpegjoccnlaaGreat

/-
  Watch: the reference's Judge, Known.
-/
namespace Go.Proofs.YtoedpegjoccnlaaGreat
open Go.Ab
end Go.Proofs.YtoedpegjoccnlaaGreat

/-
  Watch: the reference's Without, Known.
-/
namespace Go.Proofs.YtoedpegjoccnlaaGreat
open Go.Ab
end Go.Proofs.YtoedpegjoccnlaaGreat

/-
  Watch: the reference's small functions; CanBe.
-/
namespace Go.Proofs.YtoedpegjoccnlaaGreat
open Go.Ab
abbrev vB(b:WBook):List V:=[i64 b.trap.chambers,i64 b.trap.times, .sl .no 1 (es cInts b.trap.opn), .sl .no 4 (es cWord b.trap.words),i64 b.drunk,i64 b.run, .sl .no 1 (es cInt b.sober)]
end Go.Proofs.YtoedpegjoccnlaaGreat

/-
  Watch: the reference's CanBe, whole.
-/
namespace Go.Proofs.YtoedpegjoccnlaaGreat
open Go.Ab
end Go.Proofs.YtoedpegjoccnlaaGreat

/-
  Watch: the reference's TrapOf, IsStory (not built yet).
-/
namespace Go.Proofs.YtoedpegjoccnlaaGreat
open Go.Ab
end Go.Proofs.YtoedpegjoccnlaaGreat

/-
  Watch: the reference's lists.
-/
namespace Go.Proofs.YtoedpegjoccnlaaGreat
open Go.Ab
end Go.Proofs.YtoedpegjoccnlaaGreat

/-
  Watch: the reference's stories (not built yet).
-/
namespace Go.Proofs.YtoedpegjoccnlaaGreat
open Go.Ab
end Go.Proofs.YtoedpegjoccnlaaGreat

/-
  Watch: the reference's known, Stories, Least, Good, Drunk.
-/
namespace Go.Proofs.YtoedpegjoccnlaaGreat
open Go.Ab
end Go.Proofs.YtoedpegjoccnlaaGreat

/-
  Watch: the reference's with, Drunk, Must, Ask.
-/
namespace Go.Proofs.YtoedpegjoccnlaaGreat
open Go.Ab
theorem in_contains(l:List Int)(n:Int):anyB (fun x=>decide (x=n)) l=l.contains n:=by
 rw[Bool.eq_iff_iff]
 simp only[anyB,List.any_eq_true,decide_eq_true_eq,List.contains_eq_mem]
 exact⟨fun⟨y,h1,h2⟩=>h2▸h1,fun h=>⟨_,h,rfl⟩⟩
end Go.Proofs.YtoedpegjoccnlaaGreat

/-
  Watch: the reference's Must, Ask.
-/
namespace Go.Proofs.YtoedpegjoccnlaaGreat
open Go.Ab
end Go.Proofs.YtoedpegjoccnlaaGreat

/-
  Watch: the reference's Lies.
-/
namespace Go.Proofs.YtoedpegjoccnlaaGreat
open Go.Ab
end Go.Proofs.YtoedpegjoccnlaaGreat

/-
  Watch: the reference's Fish.
-/
namespace Go.Proofs.YtoedpegjoccnlaaGreat
open Go.Ab
end Go.Proofs.YtoedpegjoccnlaaGreat

/-
  Watch: the reference's Came.
-/
namespace Go.Proofs.YtoedpegjoccnlaaGreat
open Go.Ab
end Go.Proofs.YtoedpegjoccnlaaGreat

/-
  Watch: the reference's WithoutAll.
-/
namespace Go.Proofs.YtoedpegjoccnlaaGreat
open Go.Ab
end Go.Proofs.YtoedpegjoccnlaaGreat

/-
  Watch: the reference's TimesOf, AreFalse.
-/
namespace Go.Proofs.YtoedpegjoccnlaaGreat
open Go.Ab
end Go.Proofs.YtoedpegjoccnlaaGreat

/-
  Watch: the reference's AreFalse.
-/
namespace Go.Proofs.YtoedpegjoccnlaaGreat
open Go.Ab
end Go.Proofs.YtoedpegjoccnlaaGreat

/-
  Watch: the reference's Blame (not built yet).
-/
namespace Go.Proofs.YtoedpegjoccnlaaGreat
open Go.Ab
end Go.Proofs.YtoedpegjoccnlaaGreat

/-
  Watch: the reference's Blame, whole (not built yet).
-/
namespace Go.Proofs.YtoedpegjoccnlaaGreat
open Go.Ab
end Go.Proofs.YtoedpegjoccnlaaGreat

/-
  Watch: the reference's Blame, False.
-/
namespace Go.Proofs.YtoedpegjoccnlaaGreat
open Go.Ab
end Go.Proofs.YtoedpegjoccnlaaGreat

/-
  Watch: guesses (not built yet).
-/
namespace Go.Proofs.YtoedpegjoccnlaaGreat
open Go.Ab
end Go.Proofs.YtoedpegjoccnlaaGreat

/-
  Watch: the program's Check (not built yet).
-/
namespace Go.Proofs.YtoedpegjoccnlaaGreat
open Go.Ab
end Go.Proofs.YtoedpegjoccnlaaGreat

/-
  Watch: the program's Check.
-/
namespace Go.Proofs.YtoedpegjoccnlaaGreat
open Go.Ab
end Go.Proofs.YtoedpegjoccnlaaGreat

/-
  Watch: guessOf (not built yet).
-/
namespace Go.Proofs.YtoedpegjoccnlaaGreat
open Go.Ab
def orBit(g:Nat)(n:Int):Nat:=g|||(1<<<n.toNat)
end Go.Proofs.YtoedpegjoccnlaaGreat

/-
  Watch: guess.run.
-/
namespace Go.Proofs.YtoedpegjoccnlaaGreat
open Go.Ab
end Go.Proofs.YtoedpegjoccnlaaGreat

/-
  Watch: how many times a guess has; whether it can be (not built yet).
-/
namespace Go.Proofs.YtoedpegjoccnlaaGreat
open Go.Ab
end Go.Proofs.YtoedpegjoccnlaaGreat

/-
  Watch: canBe (not built yet).
-/
namespace Go.Proofs.YtoedpegjoccnlaaGreat
open Go.Ab
abbrev vK(b:WBook)(st:V):List V:=[i64 b.trap.chambers,i64 b.trap.times, .sl .no 1 (es cInts b.trap.opn), .sl .no 4 (es cWord b.trap.words),i64 b.drunk,i64 b.run, .sl .no 1 (es cInt b.sober),st]
end Go.Proofs.YtoedpegjoccnlaaGreat

/-
  Watch: a trap without some words (not built yet).
-/
namespace Go.Proofs.YtoedpegjoccnlaaGreat
open Go.Ab
end Go.Proofs.YtoedpegjoccnlaaGreat

/-
  Watch: the list of a guess (not built yet).
-/
namespace Go.Proofs.YtoedpegjoccnlaaGreat
open Go.Ab
end Go.Proofs.YtoedpegjoccnlaaGreat

/-
  Watch: the order of stories (computed where no primitive is) (not built yet).
-/
namespace Go.Proofs.YtoedpegjoccnlaaGreat
open Go.Ab
def cStory(b:WBook)(g:Nat):List V:= .int .u64 (g:Nat)::vT (trapOf b (bitsL g))
end Go.Proofs.YtoedpegjoccnlaaGreat

/-
  Watch: the stories in order.
-/
namespace Go.Proofs.YtoedpegjoccnlaaGreat
open Go.Ab
end Go.Proofs.YtoedpegjoccnlaaGreat

/-
  Watch: a guess's trap (not built yet).
-/
namespace Go.Proofs.YtoedpegjoccnlaaGreat
open Go.Ab
def rdF(b:WBook)(d:Nat)(a:List Nat):Ab.Loc:=[(32, .cell (vB b)),(304, .cell (vK b (.asl d 121 5 a.length 0 a.length))),(121, .arr 5 (es (cStory b) a))]
end Go.Proofs.YtoedpegjoccnlaaGreat

/-
  Watch: the stories one by one (not built yet).
-/
namespace Go.Proofs.YtoedpegjoccnlaaGreat
open Go.Ab
@[simp] theorem map_cStory_d(b:WBook)(d keep l):(es (cStory b) l).map (V.mapAll (dropR d keep))=es (cStory b) l:=es_map _ _ (fun _=>by simp[cStory]) _
@[simp] theorem map_cStory_f(b:WBook)(d k z e l):(es (cStory b) l).map (V.mapAll (frzR d k z e))=es (cStory b) l:=es_map _ _ (fun _=>by simp[cStory]) _
@[simp] theorem map_cStory_r(b:WBook)(own d loc ls d' lab l):(es (cStory b) l).map (V.mapAll (renR own d loc ls d' lab))=es (cStory b) l:=es_map _ _ (fun _=>by cases own<;>simp[cStory]<;>rfl) _
@[simp] theorem strip_cStory(b:WBook)(l):(es (cStory b) l).map V.stripAll=es (cStory b) l:=es_strip _ (fun _=>by simp[cStory]) _
@[simp] theorem refs_cStory(b:WBook)(own:Bool)(d:Nat)(l):(es (cStory b) l).flatMap (V.refsAll own d)=[]:=es_refs _ _ _ (fun _=>by cases own<;>simp[cStory,V.refs,Cap.refs]) _
@[simp] theorem elems_cStory(b:WBook)(l):elemsOk (es (cStory b) l) 5=true:=elemsOk_es _ _ (fun _=>by simp[cStory]) _
end Go.Proofs.YtoedpegjoccnlaaGreat

/-
  Watch: the stories one by one, whole (not built yet).
-/
namespace Go.Proofs.YtoedpegjoccnlaaGreat
open Go.Ab
end Go.Proofs.YtoedpegjoccnlaaGreat

/-
  Watch: the sort of no stories; the sort, whole (not built yet).
-/
namespace Go.Proofs.YtoedpegjoccnlaaGreat
open Go.Ab
end Go.Proofs.YtoedpegjoccnlaaGreat

/-
  Watch: read, told (not built yet).
-/
namespace Go.Proofs.YtoedpegjoccnlaaGreat
open Go.Ab
end Go.Proofs.YtoedpegjoccnlaaGreat

/-
  Watch: told (not built yet).
-/
namespace Go.Proofs.YtoedpegjoccnlaaGreat
open Go.Ab
end Go.Proofs.YtoedpegjoccnlaaGreat

/-
  Watch: Good (not built yet).
-/
namespace Go.Proofs.YtoedpegjoccnlaaGreat
open Go.Ab
end Go.Proofs.YtoedpegjoccnlaaGreat

/-
  Watch: Stories, Least, many, Drunk (not built yet).
-/
namespace Go.Proofs.YtoedpegjoccnlaaGreat
open Go.Ab
end Go.Proofs.YtoedpegjoccnlaaGreat

/-
  Watch: Must (not built yet).
-/
namespace Go.Proofs.YtoedpegjoccnlaaGreat
open Go.Ab
end Go.Proofs.YtoedpegjoccnlaaGreat

/-
  Watch: Ask (not built yet).
-/
namespace Go.Proofs.YtoedpegjoccnlaaGreat
open Go.Ab
end Go.Proofs.YtoedpegjoccnlaaGreat

/-
  Watch: Lies (not built yet).
-/
namespace Go.Proofs.YtoedpegjoccnlaaGreat
open Go.Ab
end Go.Proofs.YtoedpegjoccnlaaGreat

/-
  Watch: span (not built yet).
-/
namespace Go.Proofs.YtoedpegjoccnlaaGreat
open Go.Ab
end Go.Proofs.YtoedpegjoccnlaaGreat

/-
  Watch: Fish, Came (not built yet).
-/
namespace Go.Proofs.YtoedpegjoccnlaaGreat
open Go.Ab
end Go.Proofs.YtoedpegjoccnlaaGreat

/-
  Watch: Came (not built yet).
-/
namespace Go.Proofs.YtoedpegjoccnlaaGreat
open Go.Ab
end Go.Proofs.YtoedpegjoccnlaaGreat

/-
  Watch: fewest, no word more (not built yet).
-/
namespace Go.Proofs.YtoedpegjoccnlaaGreat
open Go.Ab
end Go.Proofs.YtoedpegjoccnlaaGreat

/-
  Watch: fewest, the search (not built yet).
-/
namespace Go.Proofs.YtoedpegjoccnlaaGreat
open Go.Ab
end Go.Proofs.YtoedpegjoccnlaaGreat

/-
  Watch: fewest, the search with words more (not built yet).
-/
namespace Go.Proofs.YtoedpegjoccnlaaGreat
open Go.Ab
end Go.Proofs.YtoedpegjoccnlaaGreat

/-
  Watch, laws: copies, equal books.
-/
namespace Go.Proofs.YtoedpegjoccnlaaGreat
open Go.Ab
end Go.Proofs.YtoedpegjoccnlaaGreat

/-
  Watch, laws: equal books.
-/
namespace Go.Proofs.YtoedpegjoccnlaaGreat
open Go.Ab
end Go.Proofs.YtoedpegjoccnlaaGreat

/-
  Watch, laws: Huge, Far, ready (not built yet).
-/
namespace Go.Proofs.YtoedpegjoccnlaaGreat
open Go.Ab
def hugeL(l:List (List Int)):Bool:=decide (40<l.length)|| !allB (fun r=>decide (r.length≤40)) l
def hugeT(t:CTrap):Bool:=hugeL t.opn||decide (40<t.words.length)
theorem e_huge_l(l:List (List Int))(hl:l.length≤40)(s:Stk)(he: ∀r,r∈l→r.length<4611686018427387904):
 Run T b75l0 [(0, .sl .no 1 (es cInts l)),(3,i64 0)] ([]::s)=
  if allB (fun r=>decide (r.length≤40)) l=true then some (.exit 0,[(0, .sl .no 1 (es cInts l)),(3,i64 l.length),(10, .bool false)],[]::s)else some (.ret,[(2, .bool true)],[]::s):=by
 refine loop_all l (fun r=>decide (r.length≤40)) (fun k=>[(0, .sl .no 1 (es cInts l)),(3,i64 k)]) (fun _=>[]::s) _ _ (by simp) (by simp) ?_ (by simp) _ _ (by simp) (by simp)
 intro k hk
 have hk2:(k:Int)<l.length:=by omega
 generalize hR:l[k]=R at*
 by_cases h:R.length≤40
 ·have h2: ¬(40:Int)<R.length:=by omega
  simp (maxSteps:=1000000) (disch:=first|omega|assumption|decide +kernel|(simp;done)|(simp;omega)|fail) [hk,hk2,hR,h,h2,wk k (by omega)]
 ·have h2:(40:Int)<R.length:=by omega
  simp (maxSteps:=1000000) (disch:=first|omega|assumption|decide +kernel|(simp;done)|(simp;omega)|fail) [hk,hk2,hR,h,h2,wk k (by omega)]
theorem e_huge(l:List (List Int))(hl:l.length<4611686018427387904)(he: ∀r,r∈l→r.length<4611686018427387904)(lab s):den T 75 [.sl .no 1 (es cInts l)] lab s=some (.bool (hugeL l),s):=by
 unfold hugeL
 rw[den_fn t75 _ _ _ rfl]
 simp only[b75]
 by_cases h:40<l.length
 ·have h2:(40:Int)<l.length:=by omega
  simp (maxSteps:=1000000) (disch:=first|omega|assumption|decide +kernel|(simp;done)|(simp;omega)|fail) [h,h2]
 ·have h2: ¬(40:Int)<l.length:=by omega
  have h1:=e_huge_l l (by omega) s he
  cases ha:allB (fun r=>decide (r.length≤40)) l
  ·rw[ha,if_neg (by simp)]at h1
   simp (maxSteps:=1000000) (disch:=first|omega|assumption|decide +kernel|(simp;done)|(simp;omega)|fail) [h,h2,h1]
  ·rw[ha,if_pos rfl]at h1
   simp (maxSteps:=1000000) (disch:=first|omega|assumption|decide +kernel|(simp;done)|(simp;omega)|fail) [h,h2,h1]
theorem e_Huge01(t:CTrap)(hs:ShortT t)(lab s):den T 46 [.agg (vT t)] lab s=some (.bool (hugeT t),s):=by
 have h1:=fun lab s=>e_huge t.opn hs.opn hs.each lab s
 have hw:=hs.words
 unfold hugeT
 rw[den_fn t46 _ _ _ rfl]
 simp only[b46]
 cases c:hugeL t.opn
 ·by_cases h:40<t.words.length
  ·have h2:(40:Int)<t.words.length:=by omega
   simp (maxSteps:=1000000) (disch:=first|omega|assumption|decide +kernel|(simp;done)|(simp;omega)|fail) [h1,c,h,h2]
  ·have h2: ¬(40:Int)<t.words.length:=by omega
   simp (maxSteps:=1000000) (disch:=first|omega|assumption|decide +kernel|(simp;done)|(simp;omega)|fail) [h1,c,h,h2]
 ·simp (maxSteps:=1000000) (disch:=first|omega|assumption|decide +kernel|(simp;done)|(simp;omega)|fail) [h1,c]
end Go.Proofs.YtoedpegjoccnlaaGreat

/-
  What the arguments of the laws of watch read as.
-/
namespace Go.Proofs.YtoedpegjoccnlaaGreat
open Go.Ab
set_option maxRecDepth 100000
theorem cells65:Tryz.prog.cellsOf 65=4:=by kernel_rfl
theorem cells3:Tryz.prog.cellsOf 3=1:=by kernel_rfl
theorem cells26:Tryz.prog.cellsOf 26=1:=by kernel_rfl
variable {B : TypeId → Nat → Prop} {n : Nat} {vs : List V}
theorem fit_int(h:Fit Tryz.prog B (n+1) 3 vs): ∃x,vs=[i64 x]:=by
 simp only[Fit,Tryz.underlying3]at h
 exact h
theorem es_all {α:Type} {f:α→List V}(l:List (List V))(h: ∀x∈l,∃y,x=f y): ∃l':List α,l=es f l':=by
 obtain⟨l',h1,_⟩:=es_of (Q:=fun _=>True) l fun x hx=>by obtain⟨y,hy⟩:=h x hx;exact⟨y,hy,trivial⟩
 exact⟨l',h1⟩
theorem fit_ints(h:Fit Tryz.prog B (n+2) 26 vs): ∃l:List Int,vs=[.sl .no 1 (es cInt l)]∧B 3 l.length:=by
 rw[Fit,Tryz.underlying26]at h
 simp only at h
 obtain⟨l,rfl,hb,h⟩:=h
 obtain⟨l',rfl⟩:=es_all (f:=cInt) l fun x hx=>by obtain⟨y,hy⟩:=fit_int (h x hx);exact⟨y,hy⟩
 rw[cells3]
 exact⟨l',rfl,by simpa using hb⟩
theorem fit_lists(h:Fit Tryz.prog B (n+3) 22 vs): ∃l:List (List Int),vs=[.sl .no 1 (es cInts l)]∧B 26 l.length∧ ∀x,x∈l→B 3 x.length:=by
 rw[Fit,Tryz.underlying22]at h
 simp only at h
 obtain⟨l,rfl,hb,h⟩:=h
 obtain⟨l',h1,h2⟩:=es_of (f:=cInts) (Q:=fun x=>B 3 x.length) l fun x hx=>by obtain⟨y,hy,hy2⟩:=fit_ints (h x hx);exact⟨y,hy,hy2⟩
 subst h1
 rw[cells26]
 exact⟨l',rfl,by simpa using hb,h2⟩
theorem fit_cword(h:Fit Tryz.prog B (n+2) 65 vs): ∃x:CWord,vs=cWord x:=by
 rw[Fit,Tryz.underlying65]at h
 simp only[FitF]at h
 obtain⟨_,_,rfl,h0,_,_,rfl,h1,_,_,rfl,h2,_,_,rfl,h3,rfl⟩:=h
 obtain⟨a,rfl⟩:=fit_int h0
 obtain⟨b,rfl⟩:=fit_int h1
 obtain⟨c,rfl⟩:=fit_int h2
 obtain⟨d,rfl⟩:=fit_int h3
 exact⟨⟨a,b,c,d⟩,rfl⟩
theorem fit_words(h:Fit Tryz.prog B (n+3) 23 vs): ∃l:List CWord,vs=[.sl .no 4 (es cWord l)]∧B 65 l.length:=by
 rw[Fit,Tryz.underlying23]at h
 simp only at h
 obtain⟨l,rfl,hb,h⟩:=h
 obtain⟨l',rfl⟩:=es_all (f:=cWord) l fun x hx=>fit_cword (h x hx)
 rw[cells65]
 exact⟨l',rfl,by simpa using hb⟩
def Reach(e:TypeId)(k:Nat):Prop:=k≤maxLen∧k*Tryz.prog.bytesOf e≤reachBytes
theorem bytes65:Tryz.prog.bytesOf 65=32:=by kernel_rfl
theorem bytes3:Tryz.prog.bytesOf 3=8:=by kernel_rfl
theorem bytes26:Tryz.prog.bytesOf 26=24:=by kernel_rfl
theorem reach_ints {k:Nat}(h:Reach 3 k):k<4611686018427387904:=by
 simp only[Reach,bytes3,reachBytes]at h;omega
theorem reach_lists {k:Nat}(h:Reach 26 k):k<4611686018427387904:=by
 simp only[Reach,bytes26,reachBytes]at h;omega
theorem reach_words {k:Nat}(h:Reach 65 k):k<4611686018427387904:=by
 simp only[Reach,bytes65,reachBytes]at h;omega
theorem fit_trap(h:Fit Tryz.prog Reach (n+4) 25 vs): ∃t:CTrap,vs=vT t∧ShortT t:=by
 rw[Fit,Tryz.underlying25]at h
 simp only[FitF]at h
 obtain⟨_,_,rfl,h0,_,_,rfl,h1,_,_,rfl,h2,_,_,rfl,h3,rfl⟩:=h
 obtain⟨a,rfl⟩:=fit_int h0
 obtain⟨b,rfl⟩:=fit_int h1
 obtain⟨c,rfl,q1,q2⟩:=fit_lists h2
 obtain⟨d,rfl,q3⟩:=fit_words h3
 exact⟨⟨a,b,c,d⟩,rfl,reach_lists q1,reach_words q3,fun l hl=>reach_ints (q2 l hl)⟩
end Go.Proofs.YtoedpegjoccnlaaGreat

/-
  Watch, laws: the examples, works (not built yet).
-/
namespace Go.Proofs.YtoedpegjoccnlaaGreat
open Go.Ab
end Go.Proofs.YtoedpegjoccnlaaGreat

/-
  Watch, laws: small helpers (not built yet).
-/
namespace Go.Proofs.YtoedpegjoccnlaaGreat
open Go.Ab
end Go.Proofs.YtoedpegjoccnlaaGreat

/-
  Watch: WatchGood (not built yet).
-/
namespace Go.Proofs.YtoedpegjoccnlaaGreat
open Go.Ab
end Go.Proofs.YtoedpegjoccnlaaGreat

/-
  Watch: WatchDrunk, WatchLies, WatchFish (not built yet).
-/
namespace Go.Proofs.YtoedpegjoccnlaaGreat
open Go.Ab
end Go.Proofs.YtoedpegjoccnlaaGreat

/-
  Watch: WatchSober (not built yet).
-/
namespace Go.Proofs.YtoedpegjoccnlaaGreat
open Go.Ab
end Go.Proofs.YtoedpegjoccnlaaGreat

/-
  Watch: WatchBlame.
-/
namespace Go.Proofs.YtoedpegjoccnlaaGreat
open Go.Ab
end Go.Proofs.YtoedpegjoccnlaaGreat

/-
  Watch: WatchWithout.
-/
namespace Go.Proofs.YtoedpegjoccnlaaGreat
open Go.Ab
end Go.Proofs.YtoedpegjoccnlaaGreat

/-
  Watch: no span is wider.
-/
namespace Go.Proofs.YtoedpegjoccnlaaGreat
open Go.Ab
end Go.Proofs.YtoedpegjoccnlaaGreat

/-
  Watch: WatchMore.
-/
namespace Go.Proofs.YtoedpegjoccnlaaGreat
open Go.Ab
end Go.Proofs.YtoedpegjoccnlaaGreat

/-
  Watch: a time that is sober.
-/
namespace Go.Proofs.YtoedpegjoccnlaaGreat
open Go.Ab
end Go.Proofs.YtoedpegjoccnlaaGreat

/-
  Watch: the reference's Sum, Behind, IsTruth.
-/
namespace Go.Proofs.YtoedpegjoccnlaaGreat
open Go.Ab
theorem sum_bound: ∀(l:List Int),(∀n,n∈l→0≤n∧n≤40)→0≤l.sum∧l.sum≤40*(l.length:Int)
 |[],_=>by simp
 |x::l,h=>by
   have h1:=h x (List.mem_cons_self ..)
   have h2:=sum_bound l fun n hn=>h n (List.mem_cons_of_mem _ hn)
   rw[List.sum_cons,List.length_cons]
   push_cast
   omega
theorem foldl_sum: ∀(l:List Int) (a:Int),l.foldl (fun x y=>x+y) a=a+l.sum
 |[],a=>by simp
 |x::l,a=>by rw[List.foldl_cons,foldl_sum l,List.sum_cons];omega
theorem e_Sum_l(l:List Int)(hl:l.length<1000000)(hb: ∀n,n∈l→0≤n∧n≤40)(s:Stk):
 Run T b63l0 [(0, .sl .no 1 (es cInt l)),(3,i64 0),(4,i64 0)] ([]::s)=some (.exit 0,[(0, .sl .no 1 (es cInt l)),(3,i64 ((l).foldl (fun x y=>x+y) 0)),(4,i64 ((l).length:Nat)),(8, .bool false)],[]::s):=by
 have key:=loop_fold (T:=T) (live:=[0,3,4]) (keep:=[]) (b:=d63l0) (l) (fun k a=>0≤a∧a≤40*(k:Int)) (fun x y=>x+y) (fun k (a:Int)=>[(0, .sl .no 1 (es cInt l)),(3,i64 a),(4,i64 (k:Nat))]) (fun k (a:Int)=>[]::s) (fun(a:Int)=>(.exit 0,[(0, .sl .no 1 (es cInt l)),(3,i64 a),(4,i64 ((l).length:Nat)),(8, .bool false)],[]::s)) (by simp) ?_ ?_ ?_ 0 (by simp) [(0, .sl .no 1 (es cInt l)),(3,i64 0),(4,i64 0)] ([]::s) (by simp) (by simp)
 ·exact key
 ·intro k a hk hi
  have hk2:(k:Int)<l.length:=by omega
  have h1:=hb _ (List.getElem_mem hk)
  generalize hx:l[k]=x at*
  have w1:IntKind.i64.wrap (a+x)=a+x:=wi _ (by omega) (by omega)
  simp (maxSteps:=1000000) (disch:=first|omega|assumption|decide +kernel|(simp;done)|(simp;omega)|fail) [hk,hk2,hx,w1,wk k (by omega)]
 ·intro k a hk hi
  have h1:=hb _ (List.getElem_mem hk)
  push_cast
  omega
 ·intro a hi
  simp
theorem e_Sum(l:List Int)(hl:l.length<1000000)(hb: ∀n,n∈l→0≤n∧n≤40)(lab s):den T 63 [.sl .no 1 (es cInt l)] lab s=some (i64 l.sum,s):=by
 have h:=e_Sum_l l hl hb s
 rw[foldl_sum,Int.zero_add]at h
 rw[den_fn t63 _ _ _ rfl]
 simp only[b63]
 simp (maxSteps:=1000000) (disch:=first|omega|assumption|decide +kernel|(simp;done)|(simp;omega)|fail) [h]
theorem e_Behind(r:List Int)(hl:r.length<1000000)(hb: ∀n,n∈r→0≤n∧n≤40)(c:Nat)(hc:c≤r.length)(lab s):den T 36 [.sl .no 1 (es cInt r),i64 c] lab s=some (i64 (behindL r c),s):=by
 have h:=fun lab s=>e_Sum (r.drop c) (by rw[List.length_drop];omega) (fun n hn=>hb n (List.mem_of_mem_drop hn)) lab s
 have hc2:(c:Int)≤r.length:=by omega
 have hm:min r.length r.length=r.length:=Nat.min_self _
 have ht:(es cInt r).take r.length=es cInt r:=List.take_of_length_le (by simp)
 unfold behindL
 rw[den_fn t36 _ _ _ rfl]
 simp only[b36]
 simp (maxSteps:=1000000) (disch:=first|omega|assumption|decide +kernel|(simp;done)|(simp;omega)|fail) [h,hc,hc2,ht]
def stepQ(t:CTrap)(L:List (List Int))(i c:Nat):Bool:=decide (0≤rowsX L i c-rowsX L (i-1) c)&&(doorB t (i-1) c||decide (rowsX L i c-rowsX L (i-1) c≤0))
def rowQ(t:CTrap)(L:List (List Int))(i:Nat):Bool:=decide (((L.getD i []).length:Int)=t.chambers)&&(allB (fun n=>wiB n 0 40) (L.getD i [])&&(decide (rowsX L i 0≤40)&&(i==0||allB (stepQ t L i) (List.range t.C))))
def wordQ(L:List (List Int))(w:CWord):Bool:=wiB ((L.getD w.time.toNat []).getD w.chamber.toNat 0) w.lo w.hi
theorem truthT_rows(t:CTrap)(L:List (List Int)):truthT t L=(decide ((L.length:Int)=t.times)&&(allB (rowQ t L) (List.range t.T)&&allB (wordQ L) t.words)):=by
 unfold truthT rowQ wordQ allB stepQ
 rw[Bool.and_assoc]
 congr 2
 congr 1
 funext i
 congr 3
 cases h:(i==0)
 ·simp
 ·simp
theorem rowQ_ok {t:CTrap} {L:List (List Int)} {i:Nat}(h:rowQ t L i=true):((L.getD i []).length:Int)=t.chambers∧ ∀n,n∈L.getD i []→0≤n∧n≤40:=by
 simp only[rowQ,Bool.and_eq_true,decide_eq_true_eq,allB_iff,wiB_iff]at h
 exact⟨h.1,h.2.1⟩
end Go.Proofs.YtoedpegjoccnlaaGreat

/-
  Watch: the reference's IsTruth: a row.
-/
namespace Go.Proofs.YtoedpegjoccnlaaGreat
open Go.Ab
theorem e_truth_l1(t:CTrap)(L:List (List Int))(i:Nat)(hi:i<L.length)(hr:L[i].length<1000000)(s:Stk):
 Run T b11l1 [(1, .sl .no 1 (es cInts L)),(2, .ptr s.length 32 0),(5,i64 (i:Nat)),(6,i64 0)] ([(32, .cell (vT t))]::s)=
  if allB (fun n=>wiB n 0 40) L[i]=true then some (.exit 2,[(1, .sl .no 1 (es cInts L)),(2, .ptr s.length 32 0),(5,i64 (i:Nat)),(6,i64 L[i].length),(36, .bool false)],[(32, .cell (vT t))]::s)else some (.ret,[(4, .bool false)],[(32, .cell (vT t))]::s):=by
 have hi2:(i:Int)<L.length:=by omega
 generalize hR:L[i]=R at*
 refine loop_all R (fun n=>wiB n 0 40) (fun k=>[(1, .sl .no 1 (es cInts L)),(2, .ptr s.length 32 0),(5,i64 (i:Nat)),(6,i64 k)]) (fun _=>[(32, .cell (vT t))]::s) _ _ (by simp) (by simp) ?_ ?_ _ _ (by simp) (by simp)
 ·intro k hk
  have hk2:(k:Int)<R.length:=by omega
  generalize hx:R[k]=x at*
  cases h:wiB x 0 40
  ·simp (maxSteps:=1000000) (disch:=first|omega|assumption|decide +kernel|(simp;done)|(simp;omega)|fail) [hi,hi2,hR,hk,hk2,hx,h,wk k (by omega)]
  ·simp (maxSteps:=1000000) (disch:=first|omega|assumption|decide +kernel|(simp;done)|(simp;omega)|fail) [hi,hi2,hR,hk,hk2,hx,h,wk k (by omega)]
 ·simp (maxSteps:=1000000) (disch:=first|omega|assumption|decide +kernel|(simp;done)|(simp;omega)|fail) [hi,hi2,hR]
end Go.Proofs.YtoedpegjoccnlaaGreat

/-
  Watch: the reference's IsTruth: a row and the one before.
-/
namespace Go.Proofs.YtoedpegjoccnlaaGreat
open Go.Ab
set_option maxHeartbeats 4000000 in
theorem e_truth_l2(t:CTrap)(ht:TrapOk t)(ho: ∀x,x∈t.opn→x.length<4611686018427387904)(L:List (List Int))(i:Nat)(hi:i<L.length)(hT:(L.length:Int)=t.times)(h0:0<i)(ha:(L[i].length:Int)=t.chambers∧ ∀n,n∈L[i]→0≤n∧n≤40)(hb:(L[i-1].length:Int)=t.chambers∧ ∀n,n∈L[i-1]→0≤n∧n≤40)(s:Stk):
 Run T b11l2 [(1, .sl .no 1 (es cInts L)),(2, .ptr s.length 32 0),(5,i64 (i:Nat)),(7,i64 0)] ([(32, .cell (vT t))]::s)=
  if allB (stepQ t L i) (List.range t.C)=true then some (.exit 4,[(1, .sl .no 1 (es cInts L)),(2, .ptr s.length 32 0),(5,i64 (i:Nat)),(7,i64 t.chambers),(61, .bool false)],[(32, .cell (vT t))]::s)else some (.ret,[(4, .bool false)],[(32, .cell (vT t))]::s):=by
 have hcc:=ht.cc
 have hopn:=ht.opn
 have htt:=ht.tt
 have eC:t.C=t.chambers.toNat:=rfl
 have hz:((t.C:Nat):Int)=t.chambers:=by omega
 obtain⟨j,rfl⟩: ∃j,i=j+1:=⟨i-1,by omega⟩
 simp only[Nat.add_sub_cancel]at hb
 have hi2:(j:Int)+1<L.length:=by omega
 have hi4:j<L.length:=by omega
 have hi5:(j:Int)<L.length:=by omega
 have hi6:((j:Int)+1).toNat=j+1:=by omega
 have hi7:(0:Int)≤(j:Int)+1:=by omega
 have hi3:(0:Int)<(j:Int)+1:=by omega
 have hi8:j<t.opn.length:=by omega
 have hi9:(j:Int)<t.opn.length:=by omega
 have w0:IntKind.i64.wrap (j:Int)=(j:Int):=wi _ (by omega) (by omega)
 refine(loop_all (List.range t.C) (stepQ t L (j+1)) (fun k=>[(1, .sl .no 1 (es cInts L)),(2, .ptr s.length 32 0),(5,i64 ((j:Int)+1)),(7,i64 k)]) (fun _=>[(32, .cell (vT t))]::s) (.ret,[(4, .bool false)],[(32, .cell (vT t))]::s) (.exit 4,[(1, .sl .no 1 (es cInts L)),(2, .ptr s.length 32 0),(5,i64 ((j:Int)+1)),(7,i64 ((List.range t.C).length:Nat)),(61, .bool false)],[(32, .cell (vT t))]::s) (by simp) (by simp) ?_ ?_ _ _ (by simp) (by simp)).trans (by simp only[List.length_range,hz];rfl)
 ·intro k hk
  simp only[List.length_range]at hk
  simp only[List.getElem_range]
  have hk2:(k:Int)<t.chambers:=by omega
  have hk9:k<1000:=by omega
  have h1:=fun lab s=>e_Behind L[j+1] (by omega) ha.2 k (by omega) lab s
  have h2:=fun lab s=>e_Behind L[j] (by omega) hb.2 k (by omega) lab s
  have r1:rowsX L (j+1) k=behindL L[j+1] k:=by unfold rowsX;simp[List.getD,hi]
  have r2:rowsX L j k=behindL L[j] k:=by unfold rowsX;simp[List.getD,hi4]
  have b1:=sum_bound (L[j+1].drop k) fun n hn=>ha.2 n (List.mem_of_mem_drop hn)
  have b2:=sum_bound (L[j].drop k) fun n hn=>hb.2 n (List.mem_of_mem_drop hn)
  rw[List.length_drop]at b1 b2
  have dd:doorB t j k=(t.opn[j]).contains (k:Int):=by
   unfold doorB
   have:t.opn.getD j []=t.opn[j]:=by simp[List.getD,hi8]
   rw[this,←in_contains];rfl
  have i1:=fun lab s=>e_In t.opn[j] k (ho _ (List.getElem_mem hi8)) lab s
  rw[in_contains]at i1
  unfold stepQ
  simp only[Nat.add_sub_cancel]
  rw[r1,r2,dd]
  have w1:IntKind.i64.wrap (behindL L[j+1] k-behindL L[j] k)=behindL L[j+1] k-behindL L[j] k:=by unfold behindL;exact wi _ (by omega) (by omega)
  clear b1 b2 r1 r2 dd ha hb eC hz hcc hopn htt
  generalize behindL L[j+1] k=x at*
  generalize behindL L[j] k=y at*
  generalize hA:L[j+1]=A at*
  generalize hB:L[j]=B at*
  generalize hD:t.opn[j]=D at*
  generalize D.contains (k:Int)=c at*
  by_cases q1:x<y
  ·have q1': ¬y≤x:=by omega
   have e:(decide (0≤x-y)&&(c||decide (x-y≤0)))=false:=by rw[decide_eq_false (by omega)];rfl
   rw[e]
   have q3:x-y<0:=by omega
   simp (maxSteps:=6000000) (disch:=first|omega|assumption|decide +kernel|(simp;done)|(simp;omega)|fail) [run_drawnK,orSlow_none,hk2,hi,hi2,hi3,hi4,hi5,hi6,hi7,hi8,hi9,w0,w1,h1,h2,i1,-e_In,hA,hB,hD,q1,q1',q3,wk k (by omega)]
  ·have q1':y≤x:=by omega
   have q3: ¬x-y<0:=by omega
   by_cases q2:y<x
   ·have q2':0<x-y:=by omega
    have e:(decide (0≤x-y)&&(c||decide (x-y≤0)))=c:=by rw[decide_eq_true (by omega),decide_eq_false (by omega)];simp
    rw[e]
    cases c
    ·simp (maxSteps:=6000000) (disch:=first|omega|assumption|decide +kernel|(simp;done)|(simp;omega)|fail) [run_drawnK,orSlow_none,hk2,hi,hi2,hi3,hi4,hi5,hi6,hi7,hi8,hi9,w0,w1,h1,h2,i1,-e_In,hA,hB,hD,q1,q1',q2,q2',q3,wk k (by omega)]
    ·simp (maxSteps:=6000000) (disch:=first|omega|assumption|decide +kernel|(simp;done)|(simp;omega)|fail) [run_drawnK,orSlow_none,hk2,hi,hi2,hi3,hi4,hi5,hi6,hi7,hi8,hi9,w0,w1,h1,h2,i1,-e_In,hA,hB,hD,q1,q1',q2,q2',q3,wk k (by omega)]
   ·have q2': ¬0<x-y:=by omega
    have e:(decide (0≤x-y)&&(c||decide (x-y≤0)))=true:=by rw[decide_eq_true (by omega),decide_eq_true (by omega)];simp
    rw[e]
    simp (maxSteps:=6000000) (disch:=first|omega|assumption|decide +kernel|(simp;done)|(simp;omega)|fail) [run_drawnK,orSlow_none,hk2,hi,hi2,hi3,hi4,hi5,hi6,hi7,hi8,hi9,w0,w1,h1,h2,i1,-e_In,hA,hB,hD,q1,q1',q2,q2',q3,wk k (by omega)]
 ·have hz2: ¬((t.C:Nat):Int)<t.chambers:=by omega
  simp only[List.length_range]
  generalize t.C=n at*
  simp (maxSteps:=1000000) (disch:=first|omega|assumption|decide +kernel|(simp;done)|(simp;omega)|fail) [hz2]
end Go.Proofs.YtoedpegjoccnlaaGreat

/-
  Watch: the reference's IsTruth, whole.
-/
namespace Go.Proofs.YtoedpegjoccnlaaGreat
open Go.Ab
set_option maxHeartbeats 8000000 in
theorem e_truth_l0(t:CTrap)(ht:TrapOk t)(ho: ∀x,x∈t.opn→x.length<4611686018427387904)(L:List (List Int))(hT:(L.length:Int)=t.times)(s:Stk):
 Run T b11l0 [(1, .sl .no 1 (es cInts L)),(2, .ptr s.length 32 0),(5,i64 0)] ([(32, .cell (vT t))]::s)=
  if allB (rowQ t L) (List.range t.T)=true then some (.exit 0,[(1, .sl .no 1 (es cInts L)),(2, .ptr s.length 32 0),(5,i64 L.length),(19, .bool false)],[(32, .cell (vT t))]::s)else some (.ret,[(4, .bool false)],[(32, .cell (vT t))]::s):=by
 have hcc:=ht.cc
 have htt:=ht.tt
 have eT:t.T=t.times.toNat:=rfl
 have eC:t.C=t.chambers.toNat:=rfl
 have key:=loop_list (T:=T) (live:=[1,2,5]) (keep:=[32]) (b:=d11l0) (List.range t.T) (fun k (_:Unit)=> ∀j,j<k→rowQ t L j=true) (fun k _=>[(1, .sl .no 1 (es cInts L)),(2, .ptr s.length 32 0),(5,i64 (k:Nat))]) (fun _ _=>[(32, .cell (vT t))]::s)
  (fun a i=>if rowQ t L i=true then .inl a else .inr (.ret,[(4, .bool false)],[(32, .cell (vT t))]::s)) (fun _=>(.exit 0,[(1, .sl .no 1 (es cInts L)),(2, .ptr s.length 32 0),(5,i64 L.length),(19, .bool false)],[(32, .cell (vT t))]::s)) ?_ ?_ ?_ ?_ (by simp) () (by intro j hj;omega) [(1, .sl .no 1 (es cInts L)),(2, .ptr s.length 32 0),(5,i64 0)] ([(32, .cell (vT t))]::s) (by simp) (by simp)
 ·rw[foldS_all]at key
  unfold allB
  rw[show Run T b11l0=Run T (.loop [1,2,5] [32] d11l0)from rfl,key]
  split<;>rfl
 ·intro k _ hk hI
  simp only[List.length_range]at hk
  simp only[List.getElem_range]
  have hk1:k<L.length:=by omega
  have hk2:(k:Int)<L.length:=by omega
  have hk9:k<1000:=by omega
  have eL:L.getD k []=L[k]:=by simp[List.getD,hk1]
  by_cases q1:(L[k].length:Int)=t.chambers
  rotate_left
  ·have e:rowQ t L k=false:=by unfold rowQ;rw[eL,decide_eq_false q1];rfl
   rw[e]
   generalize hR:L[k]=R at*
   simp (maxSteps:=6000000) (disch:=first|omega|assumption|decide +kernel|(simp;done)|(simp;omega)|fail) [run_drawnK,orSlow_none,hk1,hk2,hR,q1]
  have hx:L[k].length<1000000:=by omega
  have h1:=e_truth_l1 t L k hk1 hx s
  cases q2:allB (fun n=>wiB n 0 40) L[k]
  ·have e:rowQ t L k=false:=by unfold rowQ;rw[eL,q2,decide_eq_true q1];rfl
   rw[e]
   rw[q2,if_neg (by simp)]at h1
   generalize hR:L[k]=R at*
   simp (maxSteps:=6000000) (disch:=first|omega|assumption|decide +kernel|(simp;done)|(simp;omega)|fail) [run_drawnK,orSlow_none,hk1,hk2,hR,q1,h1]
  rw[q2,if_pos rfl]at h1
  have hin: ∀n,n∈L[k]→0≤n∧n≤40:=fun n hn=>wiB_iff.1 (allB_iff.1 q2 n hn)
  have h2:=fun lab s=>e_Behind L[k] hx hin 0 (Nat.zero_le _) lab s
  have r0:rowsX L k 0=behindL L[k] 0:=by unfold rowsX;rw[eL]
  have b1:=sum_bound (L[k].drop 0) fun n hn=>hin n (List.mem_of_mem_drop hn)
  simp only[Int.natCast_zero]at h2
  by_cases q3:behindL L[k] 0≤40
  rotate_left
  ·have e:rowQ t L k=false:=by unfold rowQ;rw[eL,q2,decide_eq_true q1,r0,decide_eq_false q3];rfl
   have q3':40<behindL L[k] 0:=by omega
   rw[e]
   clear b1 r0 q3
   generalize behindL L[k] 0=B at*
   generalize hR:L[k]=R at*
   simp (maxSteps:=6000000) (disch:=first|omega|assumption|decide +kernel|(simp;done)|(simp;omega)|fail) [run_drawnK,orSlow_none,hk1,hk2,hR,q1,h1,h2,q3']
  have q3': ¬40<behindL L[k] 0:=by omega
  by_cases h0:k=0
  ·have e:rowQ t L k=true:=by unfold rowQ;rw[eL,q2,decide_eq_true q1,r0,decide_eq_true q3,h0];rfl
   rw[e]
   subst h0
   have hl2:Run T b11l2 [(1, .sl .no 1 (es cInts L)),(2, .ptr s.length 32 0),(5,i64 0),(7,i64 0)] ([(32, .cell (vT t))]::s)=some (.exit 4,[(1, .sl .no 1 (es cInts L)),(2, .ptr s.length 32 0),(5,i64 0),(7,i64 0),(61, .bool false)],[(32, .cell (vT t))]::s):=by
    have hcp:(0:Int)<t.chambers:=by omega
    unfold b11l2
    rw[run_head (e':=[(1, .sl .no 1 (es cInts L)),(2, .ptr s.length 32 0),(5,i64 0),(7,i64 0)]) (s':=[(32, .cell (vT t))]::s) _ _ _ _ _ (by simp) (by simp)]
    simp (maxSteps:=1000000) (disch:=first|omega|assumption|decide +kernel|(simp;done)|(simp;omega)|fail) [hcp]
   clear b1 r0 q3
   simp only[Int.natCast_zero]at h1
   generalize behindL L[0] 0=B at*
   generalize hR:L[0]=R at*
   simp (maxSteps:=6000000) (disch:=first|omega|assumption|decide +kernel|(simp;done)|(simp;omega)|fail) [run_drawnK,orSlow_none,hk1,hk2,hR,q1,h1,h2,q3',hl2,wi]
  ·have hk4:k-1<L.length:=by omega
   have hprev:=rowQ_ok (hI (k-1) (by omega))
   have eP:L.getD (k-1) []=L[k-1]:=by simp[List.getD,hk4]
   rw[eP]at hprev
   have h3:=e_truth_l2 t ht ho L k hk1 hT (by omega) ⟨q1,hin⟩ hprev s
   cases q4:allB (stepQ t L k) (List.range t.C)
   ·have e:rowQ t L k=false:=by unfold rowQ;rw[eL,q2,decide_eq_true q1,r0,decide_eq_true q3,q4];simp[h0]
    rw[e]
    rw[q4,if_neg (by simp)]at h3
    clear b1 r0 q3 hprev eP
    generalize behindL L[k] 0=B at*
    generalize hR:L[k]=R at*
    simp (maxSteps:=6000000) (disch:=first|omega|assumption|decide +kernel|(simp;done)|(simp;omega)|fail) [run_drawnK,orSlow_none,hk1,hk2,hR,q1,h1,h2,h3,q3']
   ·have e:rowQ t L k=true:=by unfold rowQ;rw[eL,q2,decide_eq_true q1,r0,decide_eq_true q3,q4];simp
    rw[e]
    rw[q4,if_pos rfl]at h3
    clear b1 r0 q3 hprev eP
    generalize behindL L[k] 0=B at*
    generalize hR:L[k]=R at*
    simp (maxSteps:=6000000) (disch:=first|omega|assumption|decide +kernel|(simp;done)|(simp;omega)|fail) [run_drawnK,orSlow_none,hk1,hk2,hR,q1,h1,h2,h3,q3',wk k (by omega)]
 ·intro k a a' hk hI h j hj
  simp only[List.getElem_range]at h
  by_cases e:j<k
  ·exact hI j e
  ·have:j=k:=by omega
   subst this
   cases q:rowQ t L j
   ·rw[q]at h;simp at h
   ·rfl
 ·intro k a q hk hI h
  simp only[List.getElem_range]at h
  split at h<;>simp at h
  rw[←h];simp
 ·intro a hI
  simp only[List.length_range]
  have hz:((t.T:Nat):Int)=L.length:=by omega
  rw[hz]
  simp (maxSteps:=1000000) (disch:=first|omega|assumption|decide +kernel|(simp;done)|(simp;omega)|fail) []
set_option maxHeartbeats 4000000 in
theorem e_truth_l3(t:CTrap)(ht:TrapOk t)(L:List (List Int))(hT:(L.length:Int)=t.times)(hrow: ∀i,i<L.length→((L.getD i []).length:Int)=t.chambers)(s:Stk):
 ∃g:CWord,Run T b11l3 [(1, .sl .no 1 (es cInts L)),(2, .ptr s.length 32 0),(9,i64 0)] ([(32, .cell (vT t))]::s)=
  if allB (wordQ L) t.words=true then some (.exit 6,[(1, .sl .no 1 (es cInts L)),(2, .ptr s.length 32 0),(9,i64 t.words.length),(99, .bool false)],[(32, .cell (vT t))]::s)else some (.ret,[(4, .bool false)],[(32, .cell (vT t)),(160, .cell (cWord g))]::s):=by
 have hw9:=ht.words
 refine loop_all_g (T:=T) (b:=d11l3) t.words (wordQ L) (fun k=>[(1, .sl .no 1 (es cInts L)),(2, .ptr s.length 32 0),(9,i64 k)]) (fun _=>[(32, .cell (vT t))]::s) (fun g:CWord=>(.ret,[(4, .bool false)],[(32, .cell (vT t)),(160, .cell (cWord g))]::s)) _ (by simp) (by simp) ?_ (by simp) _ _ (by simp) (by simp)
 intro k hk
 refine⟨t.words[k],?_⟩
 have hk2:(k:Int)<t.words.length:=by omega
 have hw:=wordOk_iff.1 (ht.word _ (List.getElem_mem hk))
 unfold wordQ
 generalize hx:t.words[k]=w at*
 obtain⟨w0,w1,w2,w3⟩:=w
 dsimp only at*
 obtain⟨i,rfl⟩: ∃i:Nat,w0=i:=⟨w0.toNat,by omega⟩
 obtain⟨c,rfl⟩: ∃c:Nat,w1=c:=⟨w1.toNat,by omega⟩
 simp only[Int.toNat_natCast]
 have hi:i<L.length:=by omega
 have hi2:(i:Int)<L.length:=by omega
 have hl:=hrow i hi
 have eL:L.getD i []=L[i]:=by simp[List.getD,hi]
 rw[eL]at hl
 simp only[eL]
 have hc:c<L[i].length:=by omega
 have hc2:(c:Int)<L[i].length:=by omega
 have ec:L[i].getD c 0=L[i][c]:=by simp[List.getD,hc]
 simp only[ec]
 clear hl hw ec eL
 generalize hR:L[i]=R at*
 generalize hz:R[c]=z at*
 cases h:wiB z w2 w3
 ·simp (maxSteps:=6000000) (disch:=first|omega|assumption|decide +kernel|(simp;done)|(simp;omega)|fail) [run_drawnK,orSlow_none,hk,hk2,hx,hi,hi2,hc,hc2,hR,hz,h,wk k (by omega)]
 ·simp (maxSteps:=6000000) (disch:=first|omega|assumption|decide +kernel|(simp;done)|(simp;omega)|fail) [run_drawnK,orSlow_none,hk,hk2,hx,hi,hi2,hc,hc2,hR,hz,h,wk k (by omega)]
theorem e_IsTruth(t:CTrap)(ht:TrapOk t)(ho: ∀x,x∈t.opn→x.length<4611686018427387904)(L:List (List Int))(lab s):den T 11 [.agg (vT t), .sl .no 1 (es cInts L)] lab s=some (.bool (truthT t L),s):=by
 rw[truthT_rows]
 rw[den_fn t11 _ _ _ rfl]
 simp only[b11]
 by_cases hT:(L.length:Int)=t.times
 rotate_left
 ·simp (maxSteps:=6000000) (disch:=first|omega|assumption|decide +kernel|(simp;done)|(simp;omega)|fail) [hT]
 have htt:=ht.tt
 have eT:t.T=t.times.toNat:=rfl
 have h0:=e_truth_l0 t ht ho L hT s
 cases q0:allB (rowQ t L) (List.range t.T)
 ·rw[q0,if_neg (by simp)]at h0
  simp (maxSteps:=6000000) (disch:=first|omega|assumption|decide +kernel|(simp;done)|(simp;omega)|fail) [hT,h0]
 have hrow: ∀i,i<L.length→((L.getD i []).length:Int)=t.chambers:=fun i hi=>(rowQ_ok (allB_iff.1 q0 i (List.mem_range.2 (by omega)))).1
 obtain⟨g,h3⟩:=e_truth_l3 t ht L hT hrow s
 rw[q0,if_pos rfl]at h0
 cases q1:allB (wordQ L) t.words
 ·rw[q1,if_neg (by simp)]at h3
  simp (maxSteps:=6000000) (disch:=first|omega|assumption|decide +kernel|(simp;done)|(simp;omega)|fail) [hT,h0,h3]
 ·rw[q1,if_pos rfl]at h3
  simp (maxSteps:=6000000) (disch:=first|omega|assumption|decide +kernel|(simp;done)|(simp;omega)|fail) [hT,h0,h3]
end Go.Proofs.YtoedpegjoccnlaaGreat

/-
  Watch: the tops' example, meant (not built yet).
-/
namespace Go.Proofs.YtoedpegjoccnlaaGreat
open Go.Ab
def exT1:CTrap:=⟨2,3,[[0,1],[1]],[⟨0,0,5,6⟩,⟨0,1,0,0⟩,⟨1,0,3,8⟩,⟨2,1,4,10⟩]⟩
def exQ1:CTrap:=toldT exT1 ⟨1,1,12,20⟩
theorem exT1_ok:trapB exT1=true:=by decide +kernel
theorem exT1_one:isOneB exT1=true:=by decide +kernel
theorem e_word01(a b c d:Int)(lab s):den T 79 [i64 a,i64 b,i64 c,i64 d] lab s=some (.agg [i64 a,i64 b,i64 c,i64 d],s):=by
 rw[den_fn t79 _ _ _ rfl]
 simp only[b79]
 simp (maxSteps:=1000000) (disch:=first|omega|assumption|decide +kernel|(simp;done)|(simp;omega)|fail) []
set_option maxHeartbeats 2000000 in
theorem e_Example01(lab s):den T 54 [] lab s=some (.tup [.agg (vT exT1), .agg (vT exQ1)],s):=by
 have hC:=fun lab s=>e_Told01 exT1 (trapB_copy exT1_ok) ⟨1,1,12,20⟩ lab s
 unfold exQ1
 simp only[vT,exT1,toldT,List.cons_append,List.nil_append,es,List.map_cons,List.map_nil,cInts_eq,cInts,cInt,cWord]at hC⊢
 rw[den_fn t54 _ _ _ rfl]
 simp only[b54]
 simp (maxSteps:=6000000) (disch:=first|omega|assumption|decide +kernel|(simp;done)|(simp;omega)|fail) [run_drawnK,orSlow_none,e_word01,hC]
end Go.Proofs.YtoedpegjoccnlaaGreat

/-
  Watch: the program's differences: node, limit (not built yet).
-/
import Derived.Test.YthghcainodgnkaaGreatEq1
set_option linter.unusedSimpArgs false
set_option linter.unusedVariables false
namespace Go.Proofs.YthghcainodgnkaaGreat
open Go.Ab
def trapV(t:CTrap)(B:List Int):List V:=i64 t.chambers::i64 t.times:: .sl .no 1 (es cInts t.opn):: .sl .no 4 (es cWord t.words)::B.map i64
@[simp] theorem trapV_length(t B):(trapV t B).length=B.length+4:=by simp[trapV]
@[simp] theorem trapV_0(t B)(h:0<(trapV t B).length):(trapV t B)[0]=i64 t.chambers:=rfl
@[simp] theorem trapV_1(t B)(h:1<(trapV t B).length):(trapV t B)[1]=i64 t.times:=rfl
theorem trapV_get {t:CTrap} {B:List Int} {j:Nat}(h:j<B.length):(trapV t B)[4+j]? =some (i64 (B.getD j 0)):=by
 rw[show 4+j=j+1+1+1+1 by omega]
 simp[trapV,h,List.getD]
theorem trapV_set {t:CTrap} {B:List Int} {j:Nat} {x:Int}:(trapV t B).set (4+j) (i64 x)=trapV t (B.set j x):=by
 rw[show 4+j=j+1+1+1+1 by omega]
 simp[trapV,List.map_set]
@[simp] theorem trapV_map(r:Ren)(h:r.c .no= .no)(t B):V.mapAll r (trapV t B)=trapV t B:=by
 have: ∀l:List Int,V.mapAll r (l.map i64)=l.map i64:=fun l=>by
  induction l with
  |nil=>rfl
  |cons a l ih=>simp[V.mapAll,V.map,ih]
 simp[trapV,V.mapAll,V.map,h,this]
theorem e_node(t:CTrap)(B:List Int)(h:TrapOk t)(d l:Nat)(i c:Nat)(hi:i<t.T)(hc:c≤t.C)(s:Stk)(hd:d<s.length)(hs:sget s d l=some (.cell (trapV t B)))(lab):
 den T 116 [.ptr d l 0,i64 i,i64 c] lab s=some (i64 (nodeN t.C i c:Nat),s):=by
 have h1:=h.cc
 have h2:=h.tt
 have e1:t.C=t.chambers.toNat:=rfl
 have e2:t.T=t.times.toNat:=rfl
 have hd2: ¬d=s.length:=by omega
 have b1:i*t.C≤4*4:=Nat.mul_le_mul (by omega) (by omega)
 have b2:(i:Int)*t.chambers=((i*t.C:Nat):Int):=by rw[Int.natCast_mul];congr 1;omega
 have w1:IntKind.i64.wrap ((i:Int)*t.chambers)=(i:Int)*t.chambers:=wi _ (by omega) (by omega)
 have w2:IntKind.i64.wrap (1+(i:Int)*t.chambers)=1+(i:Int)*t.chambers:=wi _ (by omega) (by omega)
 have w3:IntKind.i64.wrap (1+(i:Int)*t.chambers+c)=1+(i:Int)*t.chambers+c:=wi _ (by omega) (by omega)
 unfold nodeN
 rw[den_fn t116 _ _ _ rfl]
 simp only[b116]
 by_cases e:c=t.C
 ·have e':(c:Int)=t.chambers:=by omega
  rw[if_pos e]
  simp (maxSteps:=1000000) (disch:=first|omega|assumption|decide +kernel|(simp;done)|(simp;omega)|fail) [hs,hd2,e']
 ·have e': ¬(c:Int)=t.chambers:=by omega
  have e3:((1+i*t.C+c:Nat):Int)=1+(i:Int)*t.chambers+c:=by rw[b2];omega
  rw[if_neg e,e3]
  simp (maxSteps:=1000000) (disch:=first|omega|assumption|decide +kernel|(simp;done)|(simp;omega)|fail) [hs,hd2,e',w1,w2,w3]
theorem put_twice: ∀(F:Ab.Loc) (l:Nat) (x y:Entry),Loc.put (Loc.put F l x) l y=Loc.put F l y
 |[],l,x,y=>by simp[Loc.put]
 |(k,z)::F,l,x,y=>by
   by_cases h:l=k
   ·subst h;simp[Loc.put]
   ·simp only[Loc.put,if_neg h,put_twice F l x y]
theorem put_self: ∀(F:Ab.Loc) (l:Nat) (x:Entry),Loc.get F l=some x→Loc.put F l x=F
 |[],l,x,h=>by simp[Loc.get]at h
 |(k,z)::F,l,x,h=>by
   by_cases e:l=k
   ·subst e;simp[Loc.get]at h;subst h;simp[Loc.put]
   ·simp only[Loc.get,if_neg e]at h
    simp only[Loc.put,if_neg e,put_self F l x h]
@[simp] theorem sput_twice: ∀(s:Stk) (d l:Nat) (x y:Entry),sput (sput s d l x) d l y=sput s d l y
 |[],_,_,_,_=>rfl
 |F::s,d,l,x,y=>by
   by_cases h:d=s.length
   ·simp[sput,h,put_twice]
   ·have:=sput_twice s d l x y
    simp[sput,h,this]
theorem sput_self: ∀(s:Stk) (d l:Nat) (x:Entry),sget s d l=some x→sput s d l x=s
 |[],_,_,_,h=>by simp[sget]at h
 |F::s,d,l,x,h=>by
   by_cases e:d=s.length
   ·simp only[sget,if_pos e]at h
    simp only[sput,if_pos e,put_self F l x h]
   ·simp only[sget,if_neg e]at h
    simp only[sput,if_neg e,sput_self s d l x h]
theorem cellK_trap {t:CTrap} {B:List Int}(h:B.length=441) {i k:Nat}(hi:i<21)(hk:k<21)(S:Stk):cellK none (4+i*21+k) S (some (.cell (trapV t B)))=some (i64 (gB B i k),S):=by
 have e:=trapV_get (t:=t) (B:=B) (j:=21*i+k) (by omega)
 rw[show 4+i*21+k=4+(21*i+k)by omega,cellK_cell,part_one,e];rfl
theorem fitK_trap {t:CTrap} {B:List Int}(h:B.length=441) {i k:Nat}(hi:i<21)(hk:k<21)(S:Stk)(d l:Nat)(x:Int):fitK 1 (4+i*21+k) S d l [i64 x] (trapV t B)=some (.undef,sput S d l (.cell (trapV t (B.set (21*i+k) x)))):=by
 have e:=trapV_set (t:=t) (B:=B) (j:=21*i+k) (x:=x)
 rw[show 4+i*21+k=4+(21*i+k)by omega,fitK_eq,if_pos ⟨rfl,by simp;omega,rfl⟩]
 have:setAll (trapV t B) (4+(21*i+k)) [i64 x]=(trapV t B).set (4+(21*i+k)) (i64 x):=by simp[setAll]
 rw[this,e]
theorem LimI.mag {f t m B i k A}(h:LimI f t m B 10000000000000000 i k A)(hB:MagB B 10000000000000000)(hm: -40≤m): ∀j l,j<21→l<21→ -60000000000000200≤gB A j l∧gB A j l≤1048576:=fun j l hj hl=>by
 have h1:=h.low hB.lo (by decide) hm j l hj hl
 have h2:=h.le j l hj hl
 have h3:=hB.hi j l hj hl
 refine⟨Int.le_trans ?_ h1,by omega⟩
 split<;>split<;>omega
set_option maxHeartbeats 1000000 in
theorem e_limit_l1(t:CTrap)(f g:Nat)(hf:f<21)(hg:g<21)(m:Int)(hm: -40≤m∧m≤40)(d l:Nat)(i:Nat)(hi0:i<21)(B0 B:List Int)(hM:MagB B0 10000000000000000)(hB0:LimI f g m B0 10000000000000000 i 0 B)(s:Stk)(hd: ¬d=s.length)(hd2:d<s.length):
 Run T b159l1 [(0, .ptr d l 4),(1,i64 f),(2,i64 g),(3,i64 m),(8,i64 i),(19,i64 i),(22,i64 0)] ([]::sput s d l (.cell (trapV t B)))=some (.exit 2,[(0, .ptr d l 4),(1,i64 f),(2,i64 g),(3,i64 m),(8,i64 i),(19,i64 i),(22,i64 ((List.range 21).length:Nat)),(23, .bool false)],[]::sput s d l (.cell (trapV t ((List.range 21).foldl (limS f g m i) B)))):=by
 have key:=loop_fold (T:=T) (live:=[0,1,2,3,8,19,22]) (keep:=[]) (b:=d159l1) (List.range 21) (fun k A=>LimI f g m B0 10000000000000000 i k A) (limS f g m i) (fun k (a:List Int)=>[(0, .ptr d l 4),(1,i64 f),(2,i64 g),(3,i64 m),(8,i64 i),(19,i64 i),(22,i64 (k:Nat))]) (fun k (a:List Int)=>[]::sput s d l (.cell (trapV t a))) (fun(a:List Int)=>(.exit 2,[(0, .ptr d l 4),(1,i64 f),(2,i64 g),(3,i64 m),(8,i64 i),(19,i64 i),(22,i64 ((List.range 21).length:Nat)),(23, .bool false)],[]::sput s d l (.cell (trapV t a)))) (by simp) ?_ ?_ ?_ B (hB0) [(0, .ptr d l 4),(1,i64 f),(2,i64 g),(3,i64 m),(8,i64 i),(19,i64 i),(22,i64 0)] ([]::sput s d l (.cell (trapV t B))) (by simp[hd]) (by simp[hd])
 ·exact key
 ·intro k a hk hi
  try simp only[List.length_range]at hk
  try simp only[List.getElem_range]
  have hmag:=hi.mag hM hm.1
  have b1:=hmag i k hi0 hk
  have b2:=hmag i f hi0 hf
  have b3:=hmag g k hg hk
  have w1:IntKind.i64.wrap (gB a i f+m)=gB a i f+m:=wi _ (by omega) (by omega)
  have w2:IntKind.i64.wrap (gB a i f+m+gB a g k)=gB a i f+m+gB a g k:=wi _ (by omega) (by omega)
  have g1:=fun S=>cellK_trap (t:=t) hi.len hi0 hk S
  have g2:=fun S=>cellK_trap (t:=t) hi.len hi0 hf S
  have g3:=fun S=>cellK_trap (t:=t) hi.len hg hk S
  have g4:=fun S d l x=>fitK_trap (t:=t) hi.len hi0 hk S d l x
  have hk2:(k:Int)<21:=by omega
  have hi2:(i:Int)<21:=by omega
  have hf2:(f:Int)<21:=by omega
  have hg2:(g:Int)<21:=by omega
  have hs:=fun x=>sget_put_same s l x hd2
  unfold limS
  generalize gB a i f=y at*
  generalize gB a g k=z at*
  generalize gB a i k=x at*
  simp (maxSteps:=1000000) (disch:=first|omega|assumption|decide +kernel|(simp;done)|(simp;omega)|fail) [run_drawnK,-cellK_cell,-fitK_eq,hs,hd,g1,g2,g3,g4,w1,w2,hk2,hi2,hf2,hg2,wk k (by omega)]
 ·intro k a hk hi
  try simp only[List.length_range]at hk
  try simp only[List.getElem_range]
  exact hi.step hf hg hi0 hk
 ·intro a hi
  simp
end Go.Proofs.YthghcainodgnkaaGreat

/-
  Watch: limit, is, word, clash, between (not built yet).
-/
namespace Go.Proofs.YthghcainodgnkaaGreat
open Go.Ab
set_option maxHeartbeats 1000000 in
theorem e_limit_l0(t:CTrap)(f g:Nat)(hf:f<21)(hg:g<21)(m:Int)(hm: -40≤m∧m≤40)(d l:Nat)(B:List Int)(hM:MagB B 10000000000000000)(s:Stk)(hd: ¬d=s.length)(hd2:d<s.length):
 Run T b159l0 [(0, .ptr d l 4),(1,i64 f),(2,i64 g),(3,i64 m),(19,i64 0)] ([]::sput s d l (.cell (trapV t B)))=some (.exit 0,[(0, .ptr d l 4),(1,i64 f),(2,i64 g),(3,i64 m),(19,i64 ((List.range 21).length:Nat)),(20, .bool false)],[]::sput s d l (.cell (trapV t ((List.range 21).foldl (limRow f g m) B)))):=by
 have key:=loop_fold (T:=T) (live:=[0,1,2,3,19]) (keep:=[]) (b:=d159l0) (List.range 21) (fun k A=>LimI f g m B 10000000000000000 k 0 A) (limRow f g m) (fun k (a:List Int)=>[(0, .ptr d l 4),(1,i64 f),(2,i64 g),(3,i64 m),(19,i64 (k:Nat))]) (fun k (a:List Int)=>[]::sput s d l (.cell (trapV t a))) (fun(a:List Int)=>(.exit 0,[(0, .ptr d l 4),(1,i64 f),(2,i64 g),(3,i64 m),(19,i64 ((List.range 21).length:Nat)),(20, .bool false)],[]::sput s d l (.cell (trapV t a)))) (by simp) ?_ ?_ ?_ B (LimI.start hM.len) [(0, .ptr d l 4),(1,i64 f),(2,i64 g),(3,i64 m),(19,i64 0)] ([]::sput s d l (.cell (trapV t B))) (by simp[hd]) (by simp[hd])
 ·exact key
 ·intro k a hk hi
  try simp only[List.length_range]at hk
  try simp only[List.getElem_range]
  have h:=e_limit_l1 t f g hf hg m hm d l k hk B a hM hi s hd hd2
  rw[show(List.range 21).foldl (limS f g m k) a=limRow f g m a k from rfl]at h
  simp only[List.length_range]at h
  have hk2:(k:Int)<21:=by omega
  simp (maxSteps:=1000000) (disch:=first|omega|assumption|decide +kernel|(simp;done)|(simp;omega)|fail) [hd,hk2,h,wk k (by omega)]
 ·intro k a hk hi
  try simp only[List.length_range]at hk
  try simp only[List.getElem_range]
  exact(hi.row hf hg hk 21 (Nat.le_refl _)).next
 ·intro a hi
  simp
theorem e_limit(t:CTrap)(f g:Nat)(hf:f<21)(hg:g<21)(m:Int)(hm: -40≤m∧m≤40)(d l:Nat)(B:List Int)(hM:MagB B 10000000000000000)(s:Stk)(hd2:d<s.length)(hs:sget s d l=some (.cell (trapV t B)))(lab):
 den T 159 [.ptr d l 4,i64 f,i64 g,i64 m] lab s=some (.tup [],sput s d l (.cell (trapV t (limL f g m B)))):=by
 have hd: ¬d=s.length:=by omega
 have h:=e_limit_l0 t f g hf hg m hm d l B hM s hd hd2
 simp only[List.length_range]at h
 have g1:=fun S=>cellK_trap (t:=t) hM.len hf hg S
 have hf2:(f:Int)<21:=by omega
 have hg2:(g:Int)<21:=by omega
 have hself:=sput_self s d l _ hs
 rw[hself]at h
 rw[den_fn t159 _ _ _ rfl]
 simp only[b159]
 unfold limL
 generalize gB B f g=x at*
 by_cases hx:x≤m
 ·rw[if_pos hx]
  simp (maxSteps:=1000000) (disch:=first|omega|assumption|decide +kernel|(simp;done)|(simp;omega)|fail) [-cellK_cell,hs,hd,g1,hf2,hg2,hx,hself]
 ·rw[if_neg hx]
  have hx2:m<x:=by omega
  simp (maxSteps:=1000000) (disch:=first|omega|assumption|decide +kernel|(simp;done)|(simp;omega)|fail) [-cellK_cell,hs,hd,g1,hf2,hg2,hx,hx2,h]
theorem e_is(t:CTrap)(f g:Nat)(hf:f<21)(hg:g<21)(lo hi:Int)(hb:0≤lo∧lo≤hi∧hi≤40)(d l:Nat)(B:List Int)(hM:MagB B 10000000000000000)(hM2:MagB (limL f g hi B) 10000000000000000)(s:Stk)(hd2:d<s.length)(hs:sget s d l=some (.cell (trapV t B)))(lab):
 den T 174 [.ptr d l 4,i64 f,i64 g, .agg [i64 lo,i64 hi]] lab s=some (.tup [],sput s d l (.cell (trapV t (limL g f (-lo) (limL f g hi B))))):=by
 have hd: ¬d=s.length:=by omega
 have h1:=fun(F:Ab.Loc) lab=>e_limit t f g hf hg hi (by omega) d l B hM (F::s) (by simp;omega) (by rw[sget_cons,if_neg hd];exact hs) lab
 have h2:=fun(F:Ab.Loc) lab=>e_limit t g f hg hf (-lo) (by omega) d l (limL f g hi B) hM2 (F::sput s d l (.cell (trapV t (limL f g hi B)))) (by simp;omega) (by rw[sget_cons,sput_length,if_neg hd];exact sget_put_same s l _ hd2) lab
 have w:IntKind.i64.wrap (-lo)= -lo:=wi _ (by omega) (by omega)
 rw[den_fn t174 _ _ _ rfl]
 simp only[b174]
 generalize limL f g hi B=B1 at*
 generalize limL g f (-lo) B1=B2 at*
 simp[hd]at h1 h2
 simp (maxSteps:=1000000) (disch:=first|omega|assumption|decide +kernel|(simp;done)|(simp;omega)|fail) [hd,h1,h2,w]
theorem e_clash(t:CTrap)(d l:Nat)(B:List Int)(hB:B.length=441)(s:Stk)(hd2:d<s.length)(hs:sget s d l=some (.cell (trapV t B)))(lab):
 den T 148 [.ptr d l 4] lab s=some (.bool (clashB B),s):=by
 have hd: ¬d=s.length:=by omega
 have hl:Run T b148l0 [(0, .ptr d l 4),(4,i64 0)] ([]::s)=if anyB (fun i=>decide (gB B i i<0)) (List.range 21)=true then some (.ret,[(2, .bool true)],[]::s)else some (.exit 0,[(0, .ptr d l 4),(4,i64 21),(5, .bool false)],[]::s):=by
  refine(loop_any (List.range 21) (fun i=>decide (gB B i i<0)) (fun k=>[(0, .ptr d l 4),(4,i64 k)]) (fun _=>[]::s) (.ret,[(2, .bool true)],[]::s) (.exit 0,[(0, .ptr d l 4),(4,i64 ((List.range 21).length:Nat)),(5, .bool false)],[]::s) (by simp) (by simp) ?_ (by simp) _ _ (by simp[hd]) (by simp)).trans (by simp)
  intro k hk
  simp only[List.length_range]at hk
  simp only[List.getElem_range]
  have g1:=fun S=>cellK_trap (t:=t) hB hk hk S
  have hk2:(k:Int)<21:=by omega
  generalize gB B k k=x at*
  by_cases hx:x<0<;>simp (maxSteps:=1000000) (disch:=first|omega|assumption|decide +kernel|(simp;done)|(simp;omega)|fail) [-cellK_cell,hs,hd,g1,hk2,hx,wk k (by omega)]
 rw[den_fn t148 _ _ _ rfl]
 simp only[b148]
 have e:clashB B=anyB (fun i=>decide (gB B i i<0)) (List.range 21):=rfl
 rw[e]
 cases h:anyB (fun i=>decide (gB B i i<0)) (List.range 21)
 ·rw[h]at hl
  simp only[Bool.false_eq_true,if_false]at hl
  simp (maxSteps:=1000000) (disch:=first|omega|assumption|decide +kernel|(simp;done)|(simp;omega)|fail) [hl]
 ·rw[h]at hl
  simp only[if_true]at hl
  simp (maxSteps:=1000000) (disch:=first|omega|assumption|decide +kernel|(simp;done)|(simp;omega)|fail) [hl]
theorem e_betw(t:CTrap)(f g:Nat)(hf:f<21)(hg:g<21)(d l:Nat)(B:List Int)(hM:MagB B 10000000000000000)(s:Stk)(hd2:d<s.length)(hs:sget s d l=some (.cell (trapV t B)))(lab):
 den T 115 [.ptr d l 4,i64 f,i64 g] lab s=some (.agg [i64 (betwS B f g).lo,i64 (betwS B f g).hi],s):=by
 have hd: ¬d=s.length:=by omega
 have g1:=fun S=>cellK_trap (t:=t) hM.len hf hg S
 have g2:=fun S=>cellK_trap (t:=t) hM.len hg hf S
 have b1:=hM.lo g f hg hf
 have b2:=hM.hi g f hg hf
 have w:IntKind.i64.wrap (-gB B g f)= -gB B g f:=wi _ (by omega) (by omega)
 have hf2:(f:Int)<21:=by omega
 have hg2:(g:Int)<21:=by omega
 rw[den_fn t115 _ _ _ rfl]
 simp only[b115]
 unfold betwS
 generalize gB B f g=x at*
 generalize gB B g f=y at*
 simp (maxSteps:=1000000) (disch:=first|omega|assumption|decide +kernel|(simp;done)|(simp;omega)|fail) [run_drawnK,-cellK_cell,hs,hd,g1,g2,hf2,hg2,w]
end Go.Proofs.YthghcainodgnkaaGreat

/-
  Watch: a trap made ready (not built yet).
-/
namespace Go.Proofs.YthghcainodgnkaaGreat
open Go.Ab
@[simp] theorem trapV_d(d keep t B):V.mapAll (dropR d keep) (trapV t B)=trapV t B:=trapV_map _ rfl t B
@[simp] theorem trapV_f(d k z e t B):V.mapAll (frzR d k z e) (trapV t B)=trapV t B:=trapV_map _ rfl t B
@[simp] theorem trapV_r(own d loc ls d' lab t B):V.mapAll (renR own d loc ls d' lab) (trapV t B)=trapV t B:=trapV_map _ (by cases own<;>rfl) t B
@[simp] theorem trapV_refs(own:Bool)(d t B):V.refsAll own d (trapV t B)=[]:=by
 have: ∀l:List Int,V.refsAll own d (l.map i64)=[]:=fun l=>by
  induction l with
  |nil=>rfl
  |cons a l ih=>simp[V.refsAll,V.refs,ih]
 cases own<;>simp[trapV,V.refsAll,V.refs,Cap.refs,this]
@[simp] theorem trapV_strip(t B):V.stripAll (trapV t B)=trapV t B:=by
 have: ∀l:List Int,V.stripAll (l.map i64)=l.map i64:=fun l=>by
  induction l with
  |nil=>rfl
  |cons a l ih=>simp[V.stripAll,V.strip,ih]
 simp[trapV,V.stripAll,V.strip,this]
theorem e_word(t:CTrap)(h:TrapOk t)(d l:Nat)(B:List Int)(hM:MagB B 10000000000000000)(w:CWord)(hw:w∈t.words)(hM2:MagB (limL (nodeN t.C w.time.toNat (w.chamber.toNat+1)) (nodeN t.C w.time.toNat w.chamber.toNat) w.hi B) 10000000000000000)(s:Stk)(hd2:d<s.length)(hs:sget s d l=some (.cell (trapV t B)))(lab):
 den T 160 [.ptr d l 0, .agg [i64 w.time,i64 w.chamber,i64 w.lo,i64 w.hi]] lab s=some (.tup [],sput s d l (.cell (trapV t ((limsW t.C w).foldl limF B)))):=by
 have hd: ¬d=s.length:=by omega
 have hb:=wordOk_iff.1 (h.word w hw)
 obtain⟨k1,k2⟩:=word_in h hw
 have et:((w.time.toNat:Nat):Int)=w.time:=by omega
 have ec:((w.chamber.toNat:Nat):Int)=w.chamber:=by omega
 have ec2:((w.chamber.toNat+1:Nat):Int)=w.chamber+1:=by omega
 have n1:=fun(F:Ab.Loc) lab=>e_node t B h d l w.time.toNat w.chamber.toNat k1 (Nat.le_of_lt k2) (F::s) (by simp;omega) (by rw[sget_cons,if_neg hd];exact hs) lab
 have n2:=fun(F:Ab.Loc) lab=>e_node t B h d l w.time.toNat (w.chamber.toNat+1) k1 (show w.chamber.toNat+1≤t.C from k2) (F::s) (by simp;omega) (by rw[sget_cons,if_neg hd];exact hs) lab
 rw[et,ec]at n1
 rw[et,ec2]at n2
 have hi:=fun(F:Ab.Loc) lab=>e_is t (nodeN t.C w.time.toNat (w.chamber.toNat+1)) (nodeN t.C w.time.toNat w.chamber.toNat) (node_lt h k1 k2) (node_lt h k1 (Nat.le_of_lt k2)) w.lo w.hi (by omega) d l B hM hM2 (F::s) (by simp;omega) (by rw[sget_cons,if_neg hd];exact hs) lab
 have w1:IntKind.i64.wrap (w.chamber+1)=w.chamber+1:=wi _ (by have:=h.cc;omega) (by have:=h.cc;omega)
 have ef:(limsW t.C w).foldl limF B=limL (nodeN t.C w.time.toNat w.chamber.toNat) (nodeN t.C w.time.toNat (w.chamber.toNat+1)) (-w.lo) (limL (nodeN t.C w.time.toNat (w.chamber.toNat+1)) (nodeN t.C w.time.toNat w.chamber.toNat) w.hi B):=rfl
 rw[ef]
 generalize limL (nodeN t.C w.time.toNat w.chamber.toNat) (nodeN t.C w.time.toNat (w.chamber.toNat+1)) (-w.lo) (limL (nodeN t.C w.time.toNat (w.chamber.toNat+1)) (nodeN t.C w.time.toNat w.chamber.toNat) w.hi B)=B2 at*
 generalize nodeN t.C w.time.toNat w.chamber.toNat=y at*
 generalize nodeN t.C w.time.toNat (w.chamber.toNat+1)=z at*
 obtain⟨t0,t1,t2,t3⟩:=w
 dsimp only at*
 simp[hd]at hi
 rw[den_fn t160 _ _ _ rfl]
 simp only[b160]
 simp (maxSteps:=1000000) (disch:=first|omega|assumption|decide +kernel|(simp;done)|(simp;omega)|fail) [run_drawnK,hd,n1,n2,hi,w1]
def fillS(i:Nat)(B:List Int)(k:Nat):List Int:=if i≠k then B.set (21*i+k) 1048576 else B
def fillRow(B:List Int)(i:Nat):List Int:=(List.range 21).foldl (fillS i) B
theorem fill_len(i:Nat): ∀(l:List Nat) (B:List Int),(l.foldl (fillS i) B).length=B.length
 |[],_=>rfl
 |k::l,B=>by rw[List.foldl_cons,fill_len i l];unfold fillS;split<;>simp
def zeroB:List Int:=List.replicate 441 0
@[simp] theorem zeroB_length:zeroB.length=441:=List.length_replicate
theorem fill_all:(List.range 21).foldl fillRow zeroB=b0L:=by decide +kernel
theorem e_set_l1(t:CTrap)(i:Nat)(hi0:i<21)(B:List Int)(hB:B.length=441)(s:Stk):
 Run T b147l1 [(1,i64 (-1)),(2, .ptr s.length 32 0),(5, .ptr s.length 256 0),(6,i64 i),(17,i64 i),(20,i64 0)] ([(32, .cell [i64 t.chambers,i64 t.times, .sl .no 1 (es cInts t.opn), .sl .no 4 (es cWord t.words)]),(256, .cell (trapV t B))]::s)=some (.exit 2,[(1,i64 (-1)),(2, .ptr s.length 32 0),(5, .ptr s.length 256 0),(6,i64 i),(17,i64 i),(20,i64 ((List.range 21).length:Nat)),(21, .bool false)],[(32, .cell [i64 t.chambers,i64 t.times, .sl .no 1 (es cInts t.opn), .sl .no 4 (es cWord t.words)]),(256, .cell (trapV t ((List.range 21).foldl (fillS i) B)))]::s):=by
 have key:=loop_fold (T:=T) (live:=[1,2,5,6,17,20]) (keep:=[32,208,256,720,736,928,1008,1024,1136,1200,1296,1424,1536,1792]) (b:=d147l1) (List.range 21) (fun _ A=>A.length=441) (fillS i) (fun k (a:List Int)=>[(1,i64 (-1)),(2, .ptr s.length 32 0),(5, .ptr s.length 256 0),(6,i64 i),(17,i64 i),(20,i64 (k:Nat))]) (fun k (a:List Int)=>[(32, .cell [i64 t.chambers,i64 t.times, .sl .no 1 (es cInts t.opn), .sl .no 4 (es cWord t.words)]),(256, .cell (trapV t a))]::s) (fun(a:List Int)=>(.exit 2,[(1,i64 (-1)),(2, .ptr s.length 32 0),(5, .ptr s.length 256 0),(6,i64 i),(17,i64 i),(20,i64 ((List.range 21).length:Nat)),(21, .bool false)],[(32, .cell [i64 t.chambers,i64 t.times, .sl .no 1 (es cInts t.opn), .sl .no 4 (es cWord t.words)]),(256, .cell (trapV t a))]::s)) (by simp) ?_ ?_ ?_ B (hB) [(1,i64 (-1)),(2, .ptr s.length 32 0),(5, .ptr s.length 256 0),(6,i64 i),(17,i64 i),(20,i64 0)] ([(32, .cell [i64 t.chambers,i64 t.times, .sl .no 1 (es cInts t.opn), .sl .no 4 (es cWord t.words)]),(256, .cell (trapV t B))]::s) (by simp) (by simp)
 ·exact key
 ·intro k a hk hi
  try simp only[List.length_range]at hk
  try simp only[List.getElem_range]
  have g4:=fun S d l x=>fitK_trap (t:=t) hi hi0 hk S d l x
  have hk2:(k:Int)<21:=by omega
  have hi2:(i:Int)<21:=by omega
  unfold fillS
  by_cases e:i=k
  ·subst e
   simp (maxSteps:=1000000) (disch:=first|omega|assumption|decide +kernel|(simp;done)|(simp;omega)|fail) [-fitK_eq,g4,hk2,wk i (by omega)]
  ·have e2: ¬(i:Int)=k:=by omega
   simp (maxSteps:=1000000) (disch:=first|omega|assumption|decide +kernel|(simp;done)|(simp;omega)|fail) [-fitK_eq,g4,hk2,hi2,e,e2,wk k (by omega)]
 ·intro k a hk hi
  try simp only[List.length_range]at hk
  try simp only[List.getElem_range]
  unfold fillS;split<;>simp[hi]
 ·intro a hi
  simp
theorem e_set_l0(t:CTrap)(s:Stk):
 Run T b147l0 [(1,i64 (-1)),(2, .ptr s.length 32 0),(5, .ptr s.length 256 0),(17,i64 0)] ([(32, .cell [i64 t.chambers,i64 t.times, .sl .no 1 (es cInts t.opn), .sl .no 4 (es cWord t.words)]),(256, .cell (trapV t zeroB))]::s)=some (.exit 0,[(1,i64 (-1)),(2, .ptr s.length 32 0),(5, .ptr s.length 256 0),(17,i64 ((List.range 21).length:Nat)),(18, .bool false)],[(32, .cell [i64 t.chambers,i64 t.times, .sl .no 1 (es cInts t.opn), .sl .no 4 (es cWord t.words)]),(256, .cell (trapV t ((List.range 21).foldl (fillRow) zeroB)))]::s):=by
 have key:=loop_fold (T:=T) (live:=[1,2,5,17]) (keep:=[32,208,256,720,736,928,1008,1024,1136,1200,1296,1424,1536,1792]) (b:=d147l0) (List.range 21) (fun _ A=>A.length=441) (fillRow) (fun k (a:List Int)=>[(1,i64 (-1)),(2, .ptr s.length 32 0),(5, .ptr s.length 256 0),(17,i64 (k:Nat))]) (fun k (a:List Int)=>[(32, .cell [i64 t.chambers,i64 t.times, .sl .no 1 (es cInts t.opn), .sl .no 4 (es cWord t.words)]),(256, .cell (trapV t a))]::s) (fun(a:List Int)=>(.exit 0,[(1,i64 (-1)),(2, .ptr s.length 32 0),(5, .ptr s.length 256 0),(17,i64 ((List.range 21).length:Nat)),(18, .bool false)],[(32, .cell [i64 t.chambers,i64 t.times, .sl .no 1 (es cInts t.opn), .sl .no 4 (es cWord t.words)]),(256, .cell (trapV t a))]::s)) (by simp) ?_ ?_ ?_ zeroB (by simp) [(1,i64 (-1)),(2, .ptr s.length 32 0),(5, .ptr s.length 256 0),(17,i64 0)] ([(32, .cell [i64 t.chambers,i64 t.times, .sl .no 1 (es cInts t.opn), .sl .no 4 (es cWord t.words)]),(256, .cell (trapV t zeroB))]::s) (by simp) (by simp)
 ·exact key
 ·intro k a hk hi
  try simp only[List.length_range]at hk
  try simp only[List.getElem_range]
  have hk2:(k:Int)<21:=by omega
  have h:=e_set_l1 t k hk a hi s
  rw[show(List.range 21).foldl (fillS k) a=fillRow a k from rfl]at h
  simp only[List.length_range]at h
  simp (maxSteps:=1000000) (disch:=first|omega|assumption|decide +kernel|(simp;done)|(simp;omega)|fail) [hk2,h,wk k (by omega)]
 ·intro k a hk hi
  try simp only[List.length_range]at hk
  try simp only[List.getElem_range]
  unfold fillRow;rw[fill_len];exact hi
 ·intro a hi
  simp
end Go.Proofs.YthghcainodgnkaaGreat

/-
  Watch: a trap made ready: doors, words (not built yet).
-/
namespace Go.Proofs.YthghcainodgnkaaGreat
open Go.Ab
theorem doorB_has(t:CTrap) {i:Nat}(hi:i<t.opn.length)(c:Nat):doorB t i c=has t.opn[i] c:=by simp[doorB,anyB,List.getD,hi]
theorem e_nodeI(t:CTrap)(B:List Int)(h:TrapOk t)(d l:Nat)(i c:Nat)(hi:i<t.T)(hc:c≤t.C)(iv cv:Int)(h1:iv=(i:Int))(h2:cv=(c:Int))(s:Stk)(hd:d<s.length)(hs:sget s d l=some (.cell (trapV t B)))(lab):
 den T 116 [.ptr d l 0,i64 iv,i64 cv] lab s=some (i64 (nodeN t.C i c:Nat),s):=by subst h1;subst h2;exact e_node t B h d l i c hi hc s hd hs lab
set_option maxHeartbeats 4000000 in
theorem e_set_l3(t:CTrap)(h:TrapOk t)(hop: ∀l,l∈t.opn→l.length<4611686018427387904)(i:Nat)(hi0:i<t.T)(B:List Int)(hB:DoorB B)(s:Stk):
 Run T b147l3 [(1,i64 (-1)),(2, .ptr s.length 32 0),(5, .ptr s.length 256 0),(8,i64 i),(36,i64 t.times),(37,i64 i),(48,i64 t.chambers),(49,i64 0)] ([(32, .cell [i64 t.chambers,i64 t.times, .sl .no 1 (es cInts t.opn), .sl .no 4 (es cWord t.words)]),(256, .cell (trapV t B))]::s)=some (.exit 6,[(1,i64 (-1)),(2, .ptr s.length 32 0),(5, .ptr s.length 256 0),(8,i64 i),(36,i64 t.times),(37,i64 i),(48,i64 t.chambers),(49,i64 ((List.range t.C).length:Nat)),(50, .bool false)],[(32, .cell [i64 t.chambers,i64 t.times, .sl .no 1 (es cInts t.opn), .sl .no 4 (es cWord t.words)]),(256, .cell (trapV t ((List.range t.C).foldl (fun A c=>(limsC t i c).foldl limF A) B)))]::s):=by
 have key:=loop_fold (T:=T) (live:=[1,2,5,8,36,37,48,49]) (keep:=[32,208,256,720,736,1792]) (b:=d147l3) (List.range t.C) (fun _ A=>DoorB A) (fun A c=>(limsC t i c).foldl limF A) (fun k (a:List Int)=>[(1,i64 (-1)),(2, .ptr s.length 32 0),(5, .ptr s.length 256 0),(8,i64 i),(36,i64 t.times),(37,i64 i),(48,i64 t.chambers),(49,i64 (k:Nat))]) (fun k (a:List Int)=>[(32, .cell [i64 t.chambers,i64 t.times, .sl .no 1 (es cInts t.opn), .sl .no 4 (es cWord t.words)]),(256, .cell (trapV t a))]::s) (fun(a:List Int)=>(.exit 6,[(1,i64 (-1)),(2, .ptr s.length 32 0),(5, .ptr s.length 256 0),(8,i64 i),(36,i64 t.times),(37,i64 i),(48,i64 t.chambers),(49,i64 ((List.range t.C).length:Nat)),(50, .bool false)],[(32, .cell [i64 t.chambers,i64 t.times, .sl .no 1 (es cInts t.opn), .sl .no 4 (es cWord t.words)]),(256, .cell (trapV t a))]::s)) (by simp) ?_ ?_ ?_ B (hB) [(1,i64 (-1)),(2, .ptr s.length 32 0),(5, .ptr s.length 256 0),(8,i64 i),(36,i64 t.times),(37,i64 i),(48,i64 t.chambers),(49,i64 0)] ([(32, .cell [i64 t.chambers,i64 t.times, .sl .no 1 (es cInts t.opn), .sl .no 4 (es cWord t.words)]),(256, .cell (trapV t B))]::s) (by simp) (by simp)
 ·exact key
 ·intro k a hk hi
  try simp only[List.length_range]at hk
  try simp only[List.getElem_range]
  have hc:=h.cc
  have ht:=h.tt
  have e1:t.C=t.chambers.toNat:=rfl
  have e2:t.T=t.times.toNat:=rfl
  have hk2:(k:Int)<t.chambers:=by omega
  have n1:=fun B (F:Ab.Loc) (hF:Loc.get F 256=some (.cell (trapV t B))) lab=>e_nodeI t B h s.length 256 i k hi0 (Nat.le_of_lt hk) i k rfl rfl (F::s) (by simp) (by simp[hF]) lab
  have n2:=fun B (F:Ab.Loc) (hF:Loc.get F 256=some (.cell (trapV t B))) lab=>e_nodeI t B h s.length 256 i (k+1) hi0 (show k+1≤t.C from hk) i ((k:Int)+1) rfl rfl (F::s) (by simp) (by simp[hF]) lab
  have b1:=node_lt h hi0 (Nat.le_of_lt hk)
  have b2:=node_lt h hi0 (show k+1≤t.C from hk)
  have hL:=fun B (hB:DoorB B) x y hx hy (F:Ab.Loc) (hF:Loc.get F 256=some (.cell (trapV t B))) lab=>e_limit t x y hx hy 0 (by omega) s.length 256 B (hB.mag.weaken (magN_small (by omega))) (F::s) (by simp) (by simp[hF]) lab
  have l1:=hL a hi _ _ b1 b2
  have d1:DoorB (limL (nodeN t.C i k) (nodeN t.C i (k+1)) 0 a):=hi.lim (l:=⟨nodeN t.C i k,nodeN t.C i (k+1),0⟩) ⟨b1,b2,Int.le_refl _⟩
  have w1:IntKind.i64.wrap ((k:Int)+1)=(k:Int)+1:=wi _ (by omega) (by omega)
  by_cases hz:i=0
  ·subst hz
   simp only[show((0:Nat):Int)=0 from rfl]at n1 n2
   have ef:(limsC t 0 k).foldl limF a=limL (nodeN t.C 0 k) (nodeN t.C 0 (k+1)) 0 a:=rfl
   rw[ef]
   have n1a:=n1 a
   have n2a:=n2 a
   clear n1 n2
   generalize nodeN t.C 0 k=x at*
   generalize nodeN t.C 0 (k+1)=y at*
   generalize limL x y 0 a=B1 at*
   simp (maxSteps:=1000000) (disch:=first|omega|assumption|decide +kernel|(simp;done)|(simp;omega)|fail) [run_drawnK,hk2,n1a,n2a,l1,w1,wk k (by omega)]
  ·obtain⟨j,rfl⟩: ∃j,i=j+1:=⟨i-1,by omega⟩
   simp only[show((j+1:Nat):Int)=(j:Int)+1 from rfl]at n1 n2
   have n3:=fun B (F:Ab.Loc) (hF:Loc.get F 256=some (.cell (trapV t B))) lab=>e_nodeI t B h s.length 256 j k (by omega) (Nat.le_of_lt hk) j k rfl rfl (F::s) (by simp) (by simp[hF]) lab
   have b3:=node_lt h (show j<t.T by omega) (Nat.le_of_lt hk)
   have l2:=hL _ d1 _ _ b1 b3
   have d2:DoorB (limL (nodeN t.C (j+1) k) (nodeN t.C j k) 0 (limL (nodeN t.C (j+1) k) (nodeN t.C (j+1) (k+1)) 0 a)):=d1.lim (l:=⟨nodeN t.C (j+1) k,nodeN t.C j k,0⟩) ⟨b1,b3,Int.le_refl _⟩
   have l3:=hL _ d2 _ _ b3 b1
   have hjo:j<t.opn.length:=by have:=h.opn;omega
   have hj2:(j:Int)<t.opn.length:=by omega
   have hdo:=doorB_has t hjo k
   have hlen:=hop t.opn[j] (List.getElem_mem hjo)
   have w2:IntKind.i64.wrap (j:Int)=j:=wi _ (by omega) (by omega)
   have hj3: ¬(j:Int)+1=0:=by omega
   cases hd:doorB t j k
   ·have ef:(limsC t (j+1) k).foldl limF a=limL (nodeN t.C j k) (nodeN t.C (j+1) k) 0 (limL (nodeN t.C (j+1) k) (nodeN t.C j k) 0 (limL (nodeN t.C (j+1) k) (nodeN t.C (j+1) (k+1)) 0 a)):=by
     unfold limsC;rw[if_neg (by omega),Nat.add_sub_cancel,hd];rfl
    rw[ef]
    rw[hd]at hdo
    clear hL
    have n1a:=n1 a
    have n2a:=n2 a
    have n1b:=n1 (limL (nodeN t.C (j+1) k) (nodeN t.C (j+1) (k+1)) 0 a)
    have n3b:=n3 (limL (nodeN t.C (j+1) k) (nodeN t.C (j+1) (k+1)) 0 a)
    clear n1 n2 n3
    generalize nodeN t.C (j+1) k=x at*
    generalize nodeN t.C (j+1) (k+1)=y at*
    generalize nodeN t.C j k=z at*
    generalize limL z x 0 (limL x z 0 (limL x y 0 a))=B3 at*
    generalize limL x z 0 (limL x y 0 a)=B2 at*
    generalize limL x y 0 a=B1 at*
    simp (maxSteps:=1000000) (disch:=first|omega|assumption|decide +kernel|(simp;done)|(simp;omega)|fail) [run_drawnK,hk2,n1a,n2a,n1b,n3b,l1,l2,l3,w1,w2,hj2,hj3,hjo,hdo.symm,hlen,wk k (by omega)]
   ·have ef:(limsC t (j+1) k).foldl limF a=limL (nodeN t.C (j+1) k) (nodeN t.C j k) 0 (limL (nodeN t.C (j+1) k) (nodeN t.C (j+1) (k+1)) 0 a):=by
     unfold limsC;rw[if_neg (by omega),Nat.add_sub_cancel,hd];rfl
    rw[ef]
    rw[hd]at hdo
    clear hL
    have n1a:=n1 a
    have n2a:=n2 a
    have n1b:=n1 (limL (nodeN t.C (j+1) k) (nodeN t.C (j+1) (k+1)) 0 a)
    have n3b:=n3 (limL (nodeN t.C (j+1) k) (nodeN t.C (j+1) (k+1)) 0 a)
    clear n1 n2 n3
    generalize nodeN t.C (j+1) k=x at*
    generalize nodeN t.C (j+1) (k+1)=y at*
    generalize nodeN t.C j k=z at*
    clear l3 d2
    generalize limL x z 0 (limL x y 0 a)=B2 at*
    generalize limL x y 0 a=B1 at*
    simp (maxSteps:=1000000) (disch:=first|omega|assumption|decide +kernel|(simp;done)|(simp;omega)|fail) [run_drawnK,hk2,n1a,n2a,n1b,n3b,l1,l2,w1,w2,hj2,hj3,hjo,hdo.symm,hlen,wk k (by omega)]
 ·intro k a hk hi
  try simp only[List.length_range]at hk
  try simp only[List.getElem_range]
  exact hi.lims _ fun l hl=>by have:=limsC_lt h hi0 hk hl;omega
 ·intro a hi
  have hc:=h.cc
  have e1:t.C=t.chambers.toNat:=rfl
  have hk3:((t.C:Nat):Int)=t.chambers:=by omega
  simp only[List.length_range,hk3]
  simp
end Go.Proofs.YthghcainodgnkaaGreat

/-
  Watch: a trap made ready, whole (not built yet).
-/
namespace Go.Proofs.YthghcainodgnkaaGreat
open Go.Ab
theorem limsI_fold(t:CTrap)(i:Nat)(A:List Int):(limsI t i).foldl limF A=(List.range t.C).foldl (fun A c=>(limsC t i c).foldl limF A) (limL 0 (nodeN t.C i 0) 40 A):=by
 unfold limsI
 rw[List.foldl_cons,List.foldl_flatMap];rfl
theorem limsT_fold(t:CTrap):(limsT t).foldl limF b0L=(List.range t.T).foldl (fun A i=>(limsI t i).foldl limF A) b0L:=by
 unfold limsT
 rw[List.foldl_flatMap]
set_option maxHeartbeats 1000000 in
theorem e_set_l2(t:CTrap)(h:TrapOk t)(hop: ∀l,l∈t.opn→l.length<4611686018427387904)(s:Stk):
 Run T b147l2 [(1,i64 (-1)),(2, .ptr s.length 32 0),(5, .ptr s.length 256 0),(36,i64 t.times),(37,i64 0)] ([(32, .cell [i64 t.chambers,i64 t.times, .sl .no 1 (es cInts t.opn), .sl .no 4 (es cWord t.words)]),(256, .cell (trapV t b0L))]::s)=some (.exit 4,[(1,i64 (-1)),(2, .ptr s.length 32 0),(5, .ptr s.length 256 0),(36,i64 t.times),(37,i64 ((List.range t.T).length:Nat)),(38, .bool false)],[(32, .cell [i64 t.chambers,i64 t.times, .sl .no 1 (es cInts t.opn), .sl .no 4 (es cWord t.words)]),(256, .cell (trapV t ((List.range t.T).foldl (fun A i=>(limsI t i).foldl limF A) b0L)))]::s):=by
 have key:=loop_fold (T:=T) (live:=[1,2,5,36,37]) (keep:=[32,208,256,1792]) (b:=d147l2) (List.range t.T) (fun _ A=>DoorB A) (fun A i=>(limsI t i).foldl limF A) (fun k (a:List Int)=>[(1,i64 (-1)),(2, .ptr s.length 32 0),(5, .ptr s.length 256 0),(36,i64 t.times),(37,i64 (k:Nat))]) (fun k (a:List Int)=>[(32, .cell [i64 t.chambers,i64 t.times, .sl .no 1 (es cInts t.opn), .sl .no 4 (es cWord t.words)]),(256, .cell (trapV t a))]::s) (fun(a:List Int)=>(.exit 4,[(1,i64 (-1)),(2, .ptr s.length 32 0),(5, .ptr s.length 256 0),(36,i64 t.times),(37,i64 ((List.range t.T).length:Nat)),(38, .bool false)],[(32, .cell [i64 t.chambers,i64 t.times, .sl .no 1 (es cInts t.opn), .sl .no 4 (es cWord t.words)]),(256, .cell (trapV t a))]::s)) (by simp) ?_ ?_ ?_ b0L (.start) [(1,i64 (-1)),(2, .ptr s.length 32 0),(5, .ptr s.length 256 0),(36,i64 t.times),(37,i64 0)] ([(32, .cell [i64 t.chambers,i64 t.times, .sl .no 1 (es cInts t.opn), .sl .no 4 (es cWord t.words)]),(256, .cell (trapV t b0L))]::s) (by simp) (by simp)
 ·exact key
 ·intro k a hk hi
  try simp only[List.length_range]at hk
  try simp only[List.getElem_range]
  have hc:=h.cc
  have ht:=h.tt
  have e1:t.C=t.chambers.toNat:=rfl
  have e2:t.T=t.times.toNat:=rfl
  have hk2:(k:Int)<t.times:=by omega
  have b1:=node_lt h hk (Nat.zero_le t.C)
  have n1:=fun(F:Ab.Loc) (hF:Loc.get F 256=some (.cell (trapV t a))) lab=>e_nodeI t a h s.length 256 k 0 hk (Nat.zero_le _) k 0 rfl rfl (F::s) (by simp) (by simp[hF]) lab
  have l1:=fun(F:Ab.Loc) (hF:Loc.get F 256=some (.cell (trapV t a))) lab=>e_limit t 0 (nodeN t.C k 0) (by decide) b1 40 (by omega) s.length 256 a (hi.mag.weaken (magN_small (by omega))) (F::s) (by simp) (by simp[hF]) lab
  simp only[show((0:Nat):Int)=0 from rfl]at l1
  have d1:DoorB (limL 0 (nodeN t.C k 0) 40 a):=hi.lim (l:=⟨0,nodeN t.C k 0,40⟩) ⟨show 0<21 by decide,b1,by dsimp only;omega⟩
  have h3:=e_set_l3 t h hop k hk _ d1 s
  rw[limsI_fold]
  have eC:((t.C:Nat):Int)=t.chambers:=by omega
  simp only[List.length_range,eC]at h3
  generalize (List.range t.C).foldl (fun A c=>(limsC t k c).foldl limF A) (limL 0 (nodeN t.C k 0) 40 a)=B2 at*
  generalize limL 0 (nodeN t.C k 0) 40 a=B1 at*
  generalize nodeN t.C k 0=x at*
  simp (maxSteps:=1000000) (disch:=first|omega|assumption|decide +kernel|(simp;done)|(simp;omega)|fail) [run_drawnK,hk2,n1,l1,h3,wk k (by omega)]
 ·intro k a hk hi
  try simp only[List.length_range]at hk
  try simp only[List.getElem_range]
  refine hi.lims _ fun l hl=> ?_
  simp only[limsI,List.mem_cons,List.mem_flatMap,List.mem_range]at hl
  rcases hl with rfl|⟨c,hc,hl⟩
  ·exact⟨show 0<21 by decide,node_lt h hk (Nat.zero_le _),by dsimp only;omega⟩
  ·have:=limsC_lt h hk hc hl;omega
 ·intro a hi
  have ht:=h.tt
  have e2:t.T=t.times.toNat:=rfl
  have hk3:((t.T:Nat):Int)=t.times:=by omega
  simp only[List.length_range,hk3]
  simp
set_option maxHeartbeats 1000000 in
theorem e_set_l4(t:CTrap)(h:TrapOk t)(D:List Int)(hD:DoorB D)(s:Stk):
 Run T b147l4 [(1,i64 (-1)),(5, .ptr s.length 256 0),(100, .sl .no 4 (es cWord t.words)),(101,i64 t.words.length),(102,i64 0)] ([(32, .cell [i64 t.chambers,i64 t.times, .sl .no 1 (es cInts t.opn), .sl .no 4 (es cWord t.words)]),(256, .cell (trapV t D))]::s)=some (.exit 8,[(1,i64 (-1)),(5, .ptr s.length 256 0),(100, .sl .no 4 (es cWord t.words)),(101,i64 t.words.length),(102,i64 ((List.range t.words.length).length:Nat)),(103, .bool false)],[(32, .cell [i64 t.chambers,i64 t.times, .sl .no 1 (es cInts t.opn), .sl .no 4 (es cWord t.words)]),(256, .cell (trapV t ((List.range t.words.length).foldl (fun A k=>(limsW t.C (t.words.getD k default)).foldl limF A) D)))]::s):=by
 have key:=loop_fold (T:=T) (live:=[1,5,100,101,102]) (keep:=[32,256,720,736,928,1008,1024,1136,1200,1296,1424,1536]) (b:=d147l4) (List.range t.words.length) (fun k A=>A=((t.words.take k).flatMap (limsW t.C)).foldl limF D) (fun A k=>(limsW t.C (t.words.getD k default)).foldl limF A) (fun k (a:List Int)=>[(1,i64 (-1)),(5, .ptr s.length 256 0),(100, .sl .no 4 (es cWord t.words)),(101,i64 t.words.length),(102,i64 (k:Nat))]) (fun k (a:List Int)=>[(32, .cell [i64 t.chambers,i64 t.times, .sl .no 1 (es cInts t.opn), .sl .no 4 (es cWord t.words)]),(256, .cell (trapV t a))]::s) (fun(a:List Int)=>(.exit 8,[(1,i64 (-1)),(5, .ptr s.length 256 0),(100, .sl .no 4 (es cWord t.words)),(101,i64 t.words.length),(102,i64 ((List.range t.words.length).length:Nat)),(103, .bool false)],[(32, .cell [i64 t.chambers,i64 t.times, .sl .no 1 (es cInts t.opn), .sl .no 4 (es cWord t.words)]),(256, .cell (trapV t a))]::s)) (by simp) ?_ ?_ ?_ D (by simp) [(1,i64 (-1)),(5, .ptr s.length 256 0),(100, .sl .no 4 (es cWord t.words)),(101,i64 t.words.length),(102,i64 0)] ([(32, .cell [i64 t.chambers,i64 t.times, .sl .no 1 (es cInts t.opn), .sl .no 4 (es cWord t.words)]),(256, .cell (trapV t D))]::s) (by simp) (by simp)
 ·exact key
 ·intro k a hk hi
  try simp only[List.length_range]at hk
  try simp only[List.getElem_range]
  have hw8:=h.words
  have hk2:(k:Int)<t.words.length:=by omega
  have ew:t.words.getD k default=t.words[k]:=by simp[List.getD,hk]
  have hmem:t.words[k]∈t.words:=List.getElem_mem hk
  have hm:MagB a (magN (2*k)):=by
   have:=mag_some h hD (t.words.take k) fun w hw=>List.mem_of_mem_take hw
   rw[List.length_take,Nat.min_eq_left (by omega)]at this
   rw[hi];exact this
  have hm1:=hm.weaken (magN_small (by omega))
  obtain⟨k1,k2⟩:=word_in h hmem
  have hb:=wordOk_iff.1 (h.word _ hmem)
  have hm2:MagB (limL (nodeN t.C t.words[k].time.toNat (t.words[k].chamber.toNat+1)) (nodeN t.C t.words[k].time.toNat t.words[k].chamber.toNat) t.words[k].hi a) (magN (2*k+1)):=hm.limit (magN_nonneg _) (l:=⟨_,_,t.words[k].hi⟩) ⟨node_lt h k1 (show t.words[k].chamber.toNat+1≤t.C from k2),node_lt h k1 (Nat.le_of_lt k2),by dsimp only;omega⟩
  have hW:=fun(F:Ab.Loc) (hF:Loc.get F 256=some (.cell (trapV t a))) lab=>e_word t h s.length 256 a hm1 t.words[k] hmem (hm2.weaken (magN_small (by omega))) (F::s) (by simp) (by simp[hF]) lab
  have hk3: ¬(k:Int)= -1:=by omega
  rw[ew]
  generalize (limsW t.C t.words[k]).foldl limF a=B1 at*
  simp (maxSteps:=1000000) (disch:=first|omega|assumption|decide +kernel|(simp;done)|(simp;omega)|fail) [hk,hk2,hk3,hW,wk k (by omega)]
 ·intro k a hk hi
  try simp only[List.length_range]at hk
  try simp only[List.getElem_range]
  have hk':k<t.words.length:=hk
  have ew:t.words.getD k default=t.words[k]:=by simp[List.getD,hk']
  rw[ew,List.take_succ_eq_append_getElem hk',List.flatMap_append,List.foldl_append,←hi]
  simp
 ·intro a hi
  simp
end Go.Proofs.YthghcainodgnkaaGreat

/-
  Watch: counts.Check, open (not built yet).
-/
namespace Go.Proofs.YthghcainodgnkaaGreat
open Go.Ab
def trapB(t:CTrap):Bool:=wiB t.chambers 1 4&&(wiB t.times 1 5&&(decide ((t.opn.length:Int)=t.times-1)&&(decide (t.words.length≤8)&&(allB (fun l=>rising l 0 (t.chambers-1)) t.opn&&allB (fun w=>wordOk t w) t.words))))
theorem trapB_ok {t:CTrap}(h:trapB t=true):TrapOk t:=by
 simp only[trapB,Bool.and_eq_true,wiB_iff,decide_eq_true_eq,allB,List.all_eq_true]at h
 exact⟨h.1,h.2.1,h.2.2.2.2.2,by omega,h.2.2.1⟩
theorem trapB_rise {t:CTrap}(h:trapB t=true) {l:List Int}(hl:l∈t.opn):rising l 0 (t.chambers-1)=true:=by
 simp only[trapB,Bool.and_eq_true,allB,List.all_eq_true]at h
 exact h.2.2.2.2.1 l hl
theorem trapB_open {t:CTrap}(h:trapB t=true): ∀l,l∈t.opn→l.length<4611686018427387904:=fun l hl=>by
 obtain⟨h1,h2⟩:=rising_iff.1 (trapB_rise h hl)
 have hc:=(trapB_ok h).cc
 have:=pair_lenL (lo:=0) (n:=4) h1 fun x hx=>by have:=h2 x hx;omega
 omega
structure ShortT(t:CTrap):Prop where
 opn:t.opn.length<4611686018427387904
 words:t.words.length<4611686018427387904
 each: ∀l,l∈t.opn→l.length<4611686018427387904
abbrev vT(t:CTrap):List V:=[i64 t.chambers,i64 t.times, .sl .no 1 (es cInts t.opn), .sl .no 4 (es cWord t.words)]
def placeB(t:CTrap)(i c:Int):Bool:=wiB i 0 (t.times-1)&&wiB c 0 (t.chambers-1)
def Mid(t:CTrap):Prop:=(-9000000000000000000≤t.chambers∧t.chambers≤9000000000000000000)∧ -9000000000000000000≤t.times∧t.times≤9000000000000000000
theorem TrapOk.mid {t:CTrap}(h:1≤t.chambers∧t.chambers≤4)(h':1≤t.times∧t.times≤5):Mid t:=⟨by omega,by omega⟩
theorem e_isPlace(t:CTrap)(hm:Mid t)(i c:Int)(lab s):den T 143 [.agg (vT t),i64 i,i64 c] lab s=some (.bool (placeB t i c),s):=by
 obtain⟨h1,h2⟩:=hm
 have w1:IntKind.i64.wrap (t.chambers-1)=t.chambers-1:=wi _ (by omega) (by omega)
 have w2:IntKind.i64.wrap (t.times-1)=t.times-1:=wi _ (by omega) (by omega)
 rw[den_fn t143 _ _ _ rfl]
 simp only[b143]
 unfold placeB
 cases h:wiB i 0 (t.times-1)<;>simp (maxSteps:=1000000) (disch:=first|omega|assumption|decide +kernel|(simp;done)|(simp;omega)|fail) [h,w1,w2]
theorem wordOk_place(t:CTrap)(w:CWord):wordOk t w=(placeB t w.time w.chamber&&(wiB w.lo 0 w.hi&&decide (w.hi≤40))):=by
 rw[Bool.eq_iff_iff,wordOk_iff]
 simp only[placeB,Bool.and_eq_true,wiB_iff,decide_eq_true_eq]
 omega
theorem e_isWord(t:CTrap)(hm:Mid t)(w:CWord)(lab s):den T 126 [.agg (vT t), .agg [i64 w.time,i64 w.chamber,i64 w.lo,i64 w.hi]] lab s=some (.bool (wordOk t w),s):=by
 have hp:=fun lab s=>e_isPlace t hm w.time w.chamber lab s
 rw[wordOk_place]
 rw[den_fn t126 _ _ _ rfl]
 simp only[b126]
 cases h:placeB t w.time w.chamber
 ·simp (maxSteps:=1000000) (disch:=first|omega|assumption|decide +kernel|(simp;done)|(simp;omega)|fail) [hp,h]
 ·cases h2:wiB w.lo 0 w.hi<;>simp (maxSteps:=1000000) (disch:=first|omega|assumption|decide +kernel|(simp;done)|(simp;omega)|fail) [hp,h,h2]
theorem e_isTime01(t:CTrap)(hm:Mid t)(i:Int)(lab s):den T 111 [.agg (vT t),i64 i] lab s=some (.bool (wiB i 0 (t.times-1)),s):=by
 obtain⟨h1,h2⟩:=hm
 have w2:IntKind.i64.wrap (t.times-1)=t.times-1:=wi _ (by omega) (by omega)
 rw[den_fn t111 _ _ _ rfl]
 simp only[b111]
 simp (maxSteps:=1000000) (disch:=first|omega|assumption|decide +kernel|(simp;done)|(simp;omega)|fail) [w2]
theorem e_isChamber01(t:CTrap)(hm:Mid t)(i:Int)(lab s):den T 103 [.agg (vT t),i64 i] lab s=some (.bool (wiB i 0 (t.chambers-1)),s):=by
 obtain⟨h1,h2⟩:=hm
 have w1:IntKind.i64.wrap (t.chambers-1)=t.chambers-1:=wi _ (by omega) (by omega)
 rw[den_fn t103 _ _ _ rfl]
 simp only[b103]
 simp (maxSteps:=1000000) (disch:=first|omega|assumption|decide +kernel|(simp;done)|(simp;omega)|fail) [w1]
theorem e_isWord01(t:CTrap)(hm:Mid t)(w:CWord)(lab s):den T 130 [.agg (vT t), .agg [i64 w.time,i64 w.chamber,i64 w.lo,i64 w.hi]] lab s=some (.bool (wordOk t w),s):=by
 have h1:=fun lab s=>e_isTime01 t hm w.time lab s
 have h2:=fun lab s=>e_isChamber01 t hm w.chamber lab s
 unfold wordOk
 rw[den_fn t130 _ _ _ rfl]
 simp only[b130]
 cases k1:wiB w.time 0 (t.times-1)
 ·simp (maxSteps:=1000000) (disch:=first|omega|assumption|decide +kernel|(simp;done)|(simp;omega)|fail) [h1,k1]
 ·cases k2:wiB w.chamber 0 (t.chambers-1)
  ·simp (maxSteps:=1000000) (disch:=first|omega|assumption|decide +kernel|(simp;done)|(simp;omega)|fail) [h1,h2,k1,k2]
  ·cases k3:wiB w.hi 0 40<;>simp (maxSteps:=1000000) (disch:=first|omega|assumption|decide +kernel|(simp;done)|(simp;omega)|fail) [h1,h2,k1,k2,k3]
end Go.Proofs.YthghcainodgnkaaGreat

/-
  Watch: counts.Check, the reference's Check (not built yet).
-/
namespace Go.Proofs.YthghcainodgnkaaGreat
open Go.Ab
theorem e_chk_l1(t:CTrap)(hm:Mid t)(l:List Int)(hl:l.length<4611686018427387904)(o:List (List Int))(n i:Int)(s:Stk):
 Run T b94l1 [(1, .ptr s.length 16 0),(4, .sl .no 1 (es cInt l)),(33, .sl .no 1 (es cInts o)),(34,i64 n),(35,i64 i),(39, .sl .no 1 (es cInt l)),(40,i64 l.length),(41,i64 0)] ([(16, .cell (vT t))]::s)=
  if rising l 0 (t.chambers-1)=true then some (.exit 2,[(1, .ptr s.length 16 0),(4, .sl .no 1 (es cInt l)),(33, .sl .no 1 (es cInts o)),(34,i64 n),(35,i64 i),(39, .sl .no 1 (es cInt l)),(40,i64 l.length),(41,i64 l.length),(42, .bool false)],[(16, .cell (vT t))]::s)
  else some (.ret,[(2,i64 10)],[(16, .cell (vT t))]::s):=by
 obtain⟨⟨m1,m2⟩,_⟩:=hm
 have w1:IntKind.i64.wrap (t.chambers-1)=t.chambers-1:=wi _ (by omega) (by omega)
 refine(loop_all (List.range l.length) (risingAt l 0 (t.chambers-1)) (fun k=>[(1, .ptr s.length 16 0),(4, .sl .no 1 (es cInt l)),(33, .sl .no 1 (es cInts o)),(34,i64 n),(35,i64 i),(39, .sl .no 1 (es cInt l)),(40,i64 l.length),(41,i64 k)]) (fun _=>[(16, .cell (vT t))]::s) (.ret,[(2,i64 10)],[(16, .cell (vT t))]::s) (.exit 2,[(1, .ptr s.length 16 0),(4, .sl .no 1 (es cInt l)),(33, .sl .no 1 (es cInts o)),(34,i64 n),(35,i64 i),(39, .sl .no 1 (es cInt l)),(40,i64 l.length),(41,i64 ((List.range l.length).length:Nat)),(42, .bool false)],[(16, .cell (vT t))]::s) (by simp) (by simp) ?_ (by simp) _ _ (by simp) (by simp)).trans (by simp only[List.length_range];rfl)
 intro k hk
 simp only[List.length_range]at hk
 simp only[List.getElem_range]
 have hg:l.getD k 0=l[k]:=by simp[List.getD,hk]
 have hk2:(k:Int)<l.length:=by omega
 cases h0:wiB l[k] 0 (t.chambers-1)
 ·simp (disch:=first|omega|assumption|decide +kernel|(simp;done)|(simp;omega)|fail) [hk,hk2,h0,w1,risingAt]
 by_cases h1:k=0
 ·subst h1
  simp (disch:=first|omega|assumption|decide +kernel|(simp;done)|(simp;omega)|fail) [hk,hk2,h0,w1,risingAt,wi]
 have hk1:k-1<l.length:=by omega
 have h1p:0<k:=by omega
 have h1q:(1:Int)≤k:=by omega
 have hg1:l.getD (k-1) 0=l[k-1]:=by simp[List.getD,hk1]
 have hn:((k:Int)-1).toNat=k-1:=by omega
 have wk1:IntKind.i64.wrap ((k:Int)-1)=(k:Int)-1:=wi _ (by omega) (by omega)
 have wk2:IntKind.i64.wrap ((k:Int)+1)=(k:Int)+1:=wi _ (by omega) (by omega)
 have hlt:(k:Int)-1<l.length:=by omega
 by_cases h2:l[k-1]<l[k]
 ·have h3: ¬l[k]≤l[k-1]:=by omega
  simp (disch:=first|omega|assumption|decide +kernel|(simp;done)|(simp;omega)|fail) [hk,hk2,hk1,h0,w1,h1,h1p,h1q,h2,h3,hn,hlt,wk1,wk2,risingAt]
 ·have h3:l[k]≤l[k-1]:=by omega
  simp (disch:=first|omega|assumption|decide +kernel|(simp;done)|(simp;omega)|fail) [hk,hk2,hk1,h0,w1,h1,h1p,h1q,h2,h3,hn,hlt,wk1,wk2,risingAt]
theorem e_chk_l0(t:CTrap)(hm:Mid t)(hs:ShortT t)(s:Stk):
 Run T b94l0 [(1, .ptr s.length 16 0),(33, .sl .no 1 (es cInts t.opn)),(34,i64 t.opn.length),(35,i64 0)] ([(16, .cell (vT t))]::s)=
  if allB (fun l=>rising l 0 (t.chambers-1)) t.opn=true then some (.exit 0,[(1, .ptr s.length 16 0),(33, .sl .no 1 (es cInts t.opn)),(34,i64 t.opn.length),(35,i64 t.opn.length),(36, .bool false)],[(16, .cell (vT t))]::s)
  else some (.ret,[(2,i64 10)],[(16, .cell (vT t))]::s):=by
 refine loop_all t.opn (fun l=>rising l 0 (t.chambers-1)) (fun k=>[(1, .ptr s.length 16 0),(33, .sl .no 1 (es cInts t.opn)),(34,i64 t.opn.length),(35,i64 k)]) (fun _=>[(16, .cell (vT t))]::s) _ _ (by simp) (by simp) ?_ (by simp) _ _ (by simp) (by simp)
 intro k hk
 have hlo:=hs.opn
 have hk2:(k:Int)<t.opn.length:=by omega
 have h:=e_chk_l1 t hm t.opn[k] (hs.each _ (List.getElem_mem hk)) t.opn t.opn.length k s
 cases hr:rising t.opn[k] 0 (t.chambers-1)
 ·rw[hr]at h
  simp only[Bool.false_eq_true,if_false]at h
  simp (maxSteps:=1000000) (disch:=first|omega|assumption|decide +kernel|(simp;done)|(simp;omega)|fail) [hk,hk2,h,hr,wk k (by omega)]
 ·rw[hr]at h
  simp only[if_true]at h
  simp (maxSteps:=1000000) (disch:=first|omega|assumption|decide +kernel|(simp;done)|(simp;omega)|fail) [hk,hk2,h,hr,wk k (by omega)]
theorem e_Check1(t:CTrap)(hm:Mid t)(w:CWord)(d l:Nat)(s:Stk)(h:sget s d l=some (.cell (vT t)))(hd: ¬d=s.length)(lab):
 den T 141 [.agg [i64 w.time,i64 w.chamber,i64 w.lo,i64 w.hi], .ptr d l 0] lab s=some (.bool (!wordOk t w),s):=by
 have hw:=fun lab s=>e_isWord t hm w lab s
 rw[den_fn t141 _ _ _ rfl]
 simp only[b141]
 cases k:wordOk t w<;>simp (maxSteps:=1000000) (disch:=first|omega|assumption|decide +kernel|(simp;done)|(simp;omega)|fail) [h,hd,hw,k]
theorem e_IndexW_l(t:CTrap)(hm:Mid t)(ws:List CWord)(d l:Nat)(s:Stk)(h:sget s d l=some (.cell (vT t)))(hd:d<s.length)(hl:ws.length<4611686018427387904):
 ∃g:Nat,Run T b157l0 [(0, .sl .no 4 (es cWord ws)),(1, .fn 141 [] [.ptr d l 0]),(7,i64 ws.length),(8,i64 0)] ([]::s)=
  if allB (fun w=>wordOk t w) ws=true then some (.exit 0,[(0, .sl .no 4 (es cWord ws)),(1, .fn 141 [] [.ptr d l 0]),(7,i64 ws.length),(8,i64 ws.length),(9, .bool false)],[]::s)else some (.ret,[(4,i64 (g:Nat))],[]::s):=by
 have hd2: ¬d=s.length:=by omega
 have hd3: ¬d=s.length+1:=by omega
 have hc: ∀(w:CWord) lab,den T 141 [.agg [i64 w.time,i64 w.chamber,i64 w.lo,i64 w.hi], .ptr d l 0] lab ([]::s)=some (.bool (!wordOk t w),[]::s):=fun w lab=>e_Check1 t hm w d l ([]::s) (by simp[hd2,h]) (by simp;omega) lab
 refine loop_all_g ws (fun w=>wordOk t w) (fun k=>[(0, .sl .no 4 (es cWord ws)),(1, .fn 141 [] [.ptr d l 0]),(7,i64 ws.length),(8,i64 k)]) (fun _=>[]::s) (fun g:Nat=>(.ret,[(4,i64 (g:Nat))],[]::s)) _ (by simp) (by simp[hd2]) ?_ (by simp) _ _ (by simp[hd2]) (by simp)
 intro k hk
 refine⟨k,?_⟩
 have hk2:(k:Int)<ws.length:=by omega
 have hc2:=fun lab=>hc ws[k] lab
 cases h2:wordOk t ws[k]
 ·simp (maxSteps:=1000000) (disch:=first|omega|assumption|decide +kernel|(simp;done)|(simp;omega)|fail) [hk,hk2,hc2,h2,hd2,hd3,wk k (by omega)]
 ·simp (maxSteps:=1000000) (disch:=first|omega|assumption|decide +kernel|(simp;done)|(simp;omega)|fail) [hk,hk2,hc2,h2,hd2,hd3,wk k (by omega)]
theorem e_ContainsW(t:CTrap)(hm:Mid t)(ws:List CWord)(d l:Nat)(s:Stk)(h:sget s d l=some (.cell (vT t)))(hd:d<s.length)(hl:ws.length<4611686018427387904)(lab):
 den T 140 [.sl .no 4 (es cWord ws), .fn 141 [] [.ptr d l 0]] lab s=some (.bool (!allB (fun w=>wordOk t w) ws),s):=by
 have hd2: ¬d=s.length:=by omega
 have hd3: ¬d=s.length+1:=by omega
 have hi: ∃r:Int,(∀lab,den T 157 [.sl .no 4 (es cWord ws), .fn 141 [] [.ptr d l 0]] lab ([]::s)=some (i64 r,[]::s))∧(0≤r↔allB (fun w=>wordOk t w) ws=false):=by
  obtain⟨g,hg⟩:=e_IndexW_l t hm ws d l ([]::s) (by simp[hd2,h]) (by simp;omega) hl
  refine⟨if allB (fun w=>wordOk t w) ws=true then -1 else g,?_,?_⟩
  rotate_left
  ·cases allB (fun w=>wordOk t w) ws<;>simp
  intro lab
  rw[den_fn t157 _ _ _ rfl]
  simp only[b157]
  cases h:allB (fun w=>wordOk t w) ws<;>simp (maxSteps:=1000000) (disch:=first|omega|assumption|decide +kernel|(simp;done)|(simp;omega)|fail) [hg,h,hd2,hd3]
 obtain⟨r,hr,hi⟩:=hi
 rw[den_fn t140 _ _ _ rfl]
 simp only[b140]
 by_cases h:0≤r
 ·simp (maxSteps:=1000000) (disch:=first|omega|assumption|decide +kernel|(simp;done)|(simp;omega)|fail) [hr,h,hi.1 h,hd2]
 ·have:allB (fun w=>wordOk t w) ws=true:=by cases hx:allB (fun w=>wordOk t w) ws;exact absurd (hi.2 hx) h;rfl
  simp (maxSteps:=1000000) (disch:=first|omega|assumption|decide +kernel|(simp;done)|(simp;omega)|fail) [hr,h,this,hd2]
set_option maxHeartbeats 1000000 in
theorem e_Check1C(t:CTrap)(hs:ShortT t)(lab s):den T 94 [.agg (vT t)] lab s=some (i64 (if trapB t=true then 0 else 10),s):=by
 have ho:=hs.opn
 have hw:=hs.words
 rw[den_fn t94 _ _ _ rfl]
 simp only[b94]
 unfold trapB
 cases c1:wiB t.chambers 1 4
 ·simp (maxSteps:=1000000) (disch:=first|omega|assumption|decide +kernel|(simp;done)|(simp;omega)|fail) [c1]
 cases c2:wiB t.times 1 5
 ·simp (maxSteps:=1000000) (disch:=first|omega|assumption|decide +kernel|(simp;done)|(simp;omega)|fail) [c1,c2]
 have hm:Mid t:=TrapOk.mid (wiB_iff.1 c1) (wiB_iff.1 c2)
 have w1:IntKind.i64.wrap (t.times-1)=t.times-1:=by have:=(wiB_iff.1 c2);exact wi _ (by omega) (by omega)
 by_cases c3:(t.opn.length:Int)=t.times-1
 rotate_left
 ·simp (maxSteps:=1000000) (disch:=first|omega|assumption|decide +kernel|(simp;done)|(simp;omega)|fail) [c1,c2,c3,w1]
 by_cases c4:t.words.length≤8
 rotate_left
 ·have c4':(8:Int)<t.words.length:=by omega
  simp (maxSteps:=1000000) (disch:=first|omega|assumption|decide +kernel|(simp;done)|(simp;omega)|fail) [c1,c2,c3,c4,c4',w1]
 have c4': ¬(8:Int)<t.words.length:=by omega
 have h0:=e_chk_l0 t hm hs s
 have hC:=fun(F:Ab.Loc) (hF:Loc.get F 16=some (.cell (vT t))) lab=>e_ContainsW t hm t.words s.length 16 (F::s) (by simp[hF]) (by simp) hw lab
 rw[c3]at h0
 cases c5:allB (fun l=>rising l 0 (t.chambers-1)) t.opn
 ·rw[c5]at h0
  simp only[Bool.false_eq_true,if_false]at h0
  simp (maxSteps:=1000000) (disch:=first|omega|assumption|decide +kernel|(simp;done)|(simp;omega)|fail) [c1,c2,c3,c4,c4',c5,w1,h0]
 ·rw[c5]at h0
  simp only[if_true]at h0
  cases c6:allB (fun w=>wordOk t w) t.words<;>simp (maxSteps:=1000000) (disch:=first|omega|assumption|decide +kernel|(simp;done)|(simp;omega)|fail) [c1,c2,c3,c4,c4',c5,c6,w1,h0,hC]
end Go.Proofs.YthghcainodgnkaaGreat

/-
  Watch: set, whole; open; Fish, Came, Judge (not built yet).
-/
namespace Go.Proofs.YthghcainodgnkaaGreat
open Go.Ab
theorem words_fold {α:Type} [Inhabited α](f:α→List Lim): ∀(l:List α) (D:List Int),(List.range l.length).foldl (fun A k=>(f (l.getD k default)).foldl limF A) D=(l.flatMap f).foldl limF D:=by
 intro l D
 have key: ∀m,m≤l.length→(List.range m).foldl (fun A k=>(f (l.getD k default)).foldl limF A) D=((l.take m).flatMap f).foldl limF D:=by
  intro m
  induction m with
  |zero=>intro _;simp
  |succ m ih=>
    intro hm
    have hm':m<l.length:=hm
    have e:l.getD m default=l[m]:=by simp[List.getD,hm']
    rw[rangeSucc_fold,ih (by omega),e,List.take_succ_eq_append_getElem hm',List.flatMap_append,List.foldl_append]
    simp
 have:=key l.length (Nat.le_refl _)
 rwa [List.take_length]at this
theorem setB_two(t:CTrap):setB t=(t.words.flatMap (limsW t.C)).foldl limF ((limsT t).foldl limF b0L):=by
 unfold setB lims;rw[List.foldl_append]
theorem limsT_door {t:CTrap}(h:TrapOk t):DoorB ((limsT t).foldl limF b0L):=DoorB.start.lims _ fun l hl=>by
 simp only[limsT,limsI,List.mem_flatMap,List.mem_range,List.mem_cons]at hl
 obtain⟨i,hi,rfl|⟨c,hc,hl⟩⟩:=hl
 ·exact⟨show 0<21 by decide,node_lt h hi (Nat.zero_le _),by dsimp only;omega⟩
 ·have:=limsC_lt h hi hc hl;omega
theorem setB_mag {t:CTrap}(h:TrapOk t):MagB (setB t) 10000000000000000:=by
 rw[setB_two]
 exact(mag_some h (limsT_door h) t.words fun _ h=>h).weaken (magN_small (by have:=h.words;omega))
theorem zeroV_trap(t:CTrap):(i64 t.chambers::i64 t.times:: .sl .no 1 (es cInts t.opn):: .sl .no 4 (es cWord t.words)::zeroV 441)=trapV t zeroB:=by
 simp only[trapV,zeroV,zeroB,List.map_replicate]
set_option maxHeartbeats 2000000 in
theorem e_set(t:CTrap)(h:TrapOk t)(hop: ∀l,l∈t.opn→l.length<4611686018427387904)(F:Ab.Loc)(s:Stk)(lab:Nat)(hF:Loc.get F lab=none):
 den T 147 [.agg (vT t),i64 (-1)] lab (F::s)=some (.ptr s.length lab 0,Loc.put F lab (.cell (trapV t (setB t)))::s):=by
 have h0:=e_set_l0 t (F::s)
 have h2:=e_set_l2 t h hop (F::s)
 have h4:=e_set_l4 t h _ (limsT_door h) (F::s)
 rw[words_fold,←setB_two]at h4
 rw[←limsT_fold]at h2
 rw[fill_all]at h0
 have ht:=h.tt
 have eT:((t.T:Nat):Int)=t.times:=by have:t.T=t.times.toNat:=rfl;omega
 simp only[List.length_range,List.length_cons,eT]at h0 h2 h4
 have hz:=zeroV_trap t
 generalize (limsT t).foldl limF b0L=D at*
 generalize setB t=E at*
 generalize b0L=B0 at*
 rw[den_fn t147 _ _ _ rfl]
 simp only[b147]
 simp (maxSteps:=1000000) (disch:=first|omega|assumption|decide +kernel|(simp;done)|(simp;omega)|fail) [h0,h2,h4,hz,hF]
def askT(t:CTrap)(is:Bool):Int:=if trapB t=true then(if is=true then 0 else 1)else 10
theorem e_askC1(t:CTrap)(hs:ShortT t)(is:Bool)(lab s):den T 146 [.agg (vT t), .bool is] lab s=some (i64 (askT t is),s):=by
 have hc:=fun lab s=>e_Check1C t hs lab s
 unfold askT
 rw[den_fn t146 _ _ _ rfl]
 simp only[b146]
 cases h:trapB t<;>cases is<;>simp (maxSteps:=1000000) (disch:=first|omega|assumption|decide +kernel|(simp;done)|(simp;omega)|fail) [hc,h]
def openT(t:CTrap)(is:Bool):Int:=if askT t is=0 then(if clashB (setB t)=true then 3 else 0)else askT t is
theorem ask_trap {t:CTrap} {is:Bool}(h:askT t is=0):trapB t=true∧is=true:=by
 unfold askT at h
 cases h1:trapB t
 ·rw[h1]at h;simp at h
 ·cases is
  ·rw[h1]at h;simp at h
  ·exact⟨rfl,rfl⟩
set_option maxHeartbeats 1000000 in
theorem e_open_no(t:CTrap)(hs:ShortT t)(is:Bool)(h: ¬openT t is=0)(F:Ab.Loc)(s:Stk)(lab:Nat):den T 114 [.agg (vT t), .bool is] lab (F::s)=some (.tup [.nilp,i64 (openT t is)],F::s):=by
 have ha:=fun lab s=>e_askC1 t hs is lab s
 unfold openT at h⊢
 rw[den_fn t114 _ _ _ rfl]
 simp only[b114]
 by_cases h1:askT t is=0
 ·rw[if_pos h1]at h⊢
  obtain⟨k1,k2⟩:=ask_trap h1
  have hok:=trapB_ok k1
  cases hc:clashB (setB t)
  ·rw[hc]at h;simp at h
  have hS:=fun(G:Ab.Loc) lab hG=>e_set t hok (trapB_open k1) G (F::s) lab hG
  have hcl:=fun(G:Ab.Loc) lab (hG:Loc.get G 240=some (.cell (trapV t (setB t))))=>e_clash t (F::s).length 240 (setB t) (setB_mag hok).len (G::F::s) (by simp) (by simp[hG]) lab
  rw[hc]at hcl
  simp only[List.length_cons]at hcl hS
  generalize setB t=B at*
  simp (maxSteps:=1000000) (disch:=first|omega|assumption|decide +kernel|(simp;done)|(simp;omega)|fail) [ha,h1,hS,hcl]
 ·rw[if_neg h1]
  simp (maxSteps:=1000000) (disch:=first|omega|assumption|decide +kernel|(simp;done)|(simp;omega)|fail) [ha,h1]
set_option maxHeartbeats 1000000 in
theorem e_open_ok(t:CTrap)(hs:ShortT t)(is:Bool)(h:openT t is=0)(F:Ab.Loc)(s:Stk)(lab:Nat)(hF:Loc.get F lab=none):den T 114 [.agg (vT t), .bool is] lab (F::s)=some (.tup [.ptr s.length lab 0,i64 0],Loc.put F lab (.cell (trapV t (setB t)))::s):=by
 have ha:=fun lab s=>e_askC1 t hs is lab s
 unfold openT at h
 by_cases h1:askT t is=0
 rotate_left
 ·rw[if_neg h1]at h;exact absurd h h1
 rw[if_pos h1]at h
 obtain⟨k1,k2⟩:=ask_trap h1
 have hok:=trapB_ok k1
 have hc:clashB (setB t)=false:=by cases hc:clashB (setB t);rfl;rw[hc]at h;simp at h
 have hS:=fun(G:Ab.Loc) lab hG=>e_set t hok (trapB_open k1) G (F::s) lab hG
 have hcl:=fun(G:Ab.Loc) lab (hG:Loc.get G 240=some (.cell (trapV t (setB t))))=>e_clash t (F::s).length 240 (setB t) (setB_mag hok).len (G::F::s) (by simp) (by simp[hG]) lab
 rw[hc]at hcl
 simp only[List.length_cons]at hcl hS
 generalize setB t=B at*
 rw[den_fn t114 _ _ _ rfl]
 simp only[b114]
 simp (maxSteps:=1000000) (disch:=first|omega|assumption|decide +kernel|(simp;done)|(simp;omega)|fail) [ha,h1,hS,hcl,hF]
end Go.Proofs.YthghcainodgnkaaGreat

/-
  Watch: Fish, Came, Judge of counts (not built yet).
-/
namespace Go.Proofs.YthghcainodgnkaaGreat
open Go.Ab
theorem openT_ok {t:CTrap} {is:Bool}(h:openT t is=0):trapB t=true∧is=true∧ ∃x,Sol t x:=by
 unfold openT at h
 by_cases h1:askT t is=0
 ·rw[if_pos h1]at h
  obtain⟨k1,k2⟩:=ask_trap h1
  refine⟨k1,k2,(clash_iff (trapB_ok k1)).1 ?_⟩
  cases hc:clashB (setB t)
  ·rfl
  ·rw[hc]at h;simp at h
 ·rw[if_neg h1]at h;exact absurd h h1
theorem openT_of {t:CTrap}(h:trapB t=true) {is:Bool}:openT t is=if is=true then(if isOneB t=true then 0 else 3)else 1:=by
 unfold openT askT
 rw[h]
 cases is
 ·simp
 ·have h1:=clash_iff (trapB_ok h)
  have h2:=isOne_iff (trapB_ok h)
  cases hc:clashB (setB t)
  ·have:isOneB t=true:=h2.2 (h1.1 hc)
   simp[this]
  ·have:isOneB t=false:=by
    cases ho:isOneB t
    ·rfl
    ·have:=h1.2 (h2.1 ho);rw[hc]at this;cases this
   simp[this]
theorem trapB_mid {t:CTrap}(h:trapB t=true):Mid t:=TrapOk.mid (trapB_ok h).cc (trapB_ok h).tt
theorem e_fish(t:CTrap)(h:TrapOk t)(d l:Nat)(i c:Nat)(hi:i<t.T)(hc:c<t.C)(s:Stk)(hd2:d<s.length)(hs:sget s d l=some (.cell (trapV t (setB t))))(lab):
 den T 127 [.ptr d l 0,i64 i,i64 c] lab s=some (.agg [i64 (betwS (setB t) (nodeN t.C i (c+1)) (nodeN t.C i c)).lo,i64 (betwS (setB t) (nodeN t.C i (c+1)) (nodeN t.C i c)).hi],s):=by
 have hd: ¬d=s.length:=by omega
 have hcc:=h.cc
 have e1:t.C=t.chambers.toNat:=rfl
 have n1:=fun(F:Ab.Loc) lab=>e_nodeI t (setB t) h d l i c hi (Nat.le_of_lt hc) i c rfl rfl (F::s) (by simp;omega) (by rw[sget_cons,if_neg hd];exact hs) lab
 have n2:=fun(F:Ab.Loc) lab=>e_nodeI t (setB t) h d l i (c+1) hi (show c+1≤t.C from hc) i ((c:Int)+1) rfl rfl (F::s) (by simp;omega) (by rw[sget_cons,if_neg hd];exact hs) lab
 have hb:=fun(F:Ab.Loc) lab=>e_betw t (nodeN t.C i (c+1)) (nodeN t.C i c) (node_lt h hi (show c+1≤t.C from hc)) (node_lt h hi (Nat.le_of_lt hc)) d l (setB t) (setB_mag h) (F::s) (by simp;omega) (by rw[sget_cons,if_neg hd];exact hs) lab
 have w1:IntKind.i64.wrap ((c:Int)+1)=(c:Int)+1:=wi _ (by omega) (by omega)
 generalize betwS (setB t) (nodeN t.C i (c+1)) (nodeN t.C i c)=b at*
 generalize nodeN t.C i (c+1)=x at*
 generalize nodeN t.C i c=y at*
 rw[den_fn t127 _ _ _ rfl]
 simp only[b127]
 simp (maxSteps:=1000000) (disch:=first|omega|assumption|decide +kernel|(simp;done)|(simp;omega)|fail) [orSlow_none,hd,n1,n2,hb,w1]
def fishC(t:CTrap)(i c:Int):CSp×Int:=if openT t (placeB t i c)=0 then(difR t i.toNat c.toNat i.toNat (c.toNat+1),0)else(⟨0,0⟩,openT t (placeB t i c))
set_option maxHeartbeats 1000000 in
theorem e_Fish(t:CTrap)(hs:ShortT t)(hB:trapB t=true)(i c:Int)(lab s):den T 102 [.agg (vT t),i64 i,i64 c] lab s=some (.tup [.agg [i64 (fishC t i c).1.lo,i64 (fishC t i c).1.hi],i64 (fishC t i c).2],s):=by
 have hp:=fun lab s=>e_isPlace t (trapB_mid hB) i c lab s
 unfold fishC
 rw[den_fn t102 _ _ _ rfl]
 simp only[b102]
 by_cases h:openT t (placeB t i c)=0
 ·obtain⟨k1,k2,k3⟩:=openT_ok h
  have hok:=trapB_ok k1
  have ho:=fun(F:Ab.Loc) lab hF=>e_open_ok t hs (placeB t i c) h F s lab hF
  have hb:(0≤i∧i≤t.times-1)∧0≤c∧c≤t.chambers-1:=by simpa only[placeB,Bool.and_eq_true,wiB_iff]using k2
  have e1:t.C=t.chambers.toNat:=rfl
  have e2:t.T=t.times.toNat:=rfl
  obtain⟨i,rfl⟩: ∃n:Nat,i=n:=⟨i.toNat,by omega⟩
  obtain⟨c,rfl⟩: ∃n:Nat,c=n:=⟨c.toNat,by omega⟩
  have hf:=fun(F:Ab.Loc) (hF:Loc.get F 256=some (.cell (trapV t (setB t)))) lab=>e_fish t hok s.length 256 i c (by omega) (by omega) (F::s) (by simp) (by simp[hF]) lab
  rw[betw_eq hok k3 (by omega) (by omega) (by omega) (by omega)]at hf
  rw[if_pos h]
  rw[k2]at ho
  simp only[Int.toNat_natCast]
  generalize difR t i c i (c+1)=b at*
  generalize setB t=B at*
  simp (maxSteps:=1000000) (disch:=first|omega|assumption|decide +kernel|(simp;done)|(simp;omega)|fail) [orSlow_none,hp,k2,ho,hf]
 ·have ho:=fun(F:Ab.Loc) lab=>e_open_no t hs (placeB t i c) h F s lab
  rw[if_neg h]
  generalize placeB t i c=p at*
  simp (maxSteps:=1000000) (disch:=first|omega|assumption|decide +kernel|(simp;done)|(simp;omega)|fail) [orSlow_none,hp,ho,h]
def cameC(t:CTrap)(i j:Int):CSp×Int:=if openT t (wiB i 0 j&&decide (j<t.times))=0 then(difR t j.toNat 0 i.toNat 0,0)else(⟨0,0⟩,openT t (wiB i 0 j&&decide (j<t.times)))
set_option maxHeartbeats 1000000 in
theorem e_Came(t:CTrap)(hs:ShortT t)(hB:trapB t=true)(i j:Int)(lab s):den T 107 [.agg (vT t),i64 i,i64 j] lab s=some (.tup [.agg [i64 (cameC t i j).1.lo,i64 (cameC t i j).1.hi],i64 (cameC t i j).2],s):=by
 unfold cameC
 rw[den_fn t107 _ _ _ rfl]
 simp only[b107]
 by_cases h:openT t (wiB i 0 j&&decide (j<t.times))=0
 ·obtain⟨k1,k2,k3⟩:=openT_ok h
  have hok:=trapB_ok k1
  have ho:=fun(F:Ab.Loc) lab hF=>e_open_ok t hs _ h F s lab hF
  rw[k2]at ho
  have hb:(0≤i∧i≤j)∧j<t.times:=by simpa only[Bool.and_eq_true,wiB_iff,decide_eq_true_eq]using k2
  have c1:wiB i 0 j=true:=wiB_iff.2 hb.1
  have c2:=hb.2
  have e1:t.C=t.chambers.toNat:=rfl
  have e2:t.T=t.times.toNat:=rfl
  obtain⟨i,rfl⟩: ∃n:Nat,i=n:=⟨i.toNat,by omega⟩
  obtain⟨j,rfl⟩: ∃n:Nat,j=n:=⟨j.toNat,by omega⟩
  have n1:=fun(F:Ab.Loc) (hF:Loc.get F 336=some (.cell (trapV t (setB t)))) lab=>e_nodeI t (setB t) hok s.length 336 i 0 (by omega) (Nat.zero_le _) i 0 rfl rfl (F::s) (by simp) (by simp[hF]) lab
  have n2:=fun(F:Ab.Loc) (hF:Loc.get F 336=some (.cell (trapV t (setB t)))) lab=>e_nodeI t (setB t) hok s.length 336 j 0 (by omega) (Nat.zero_le _) j 0 rfl rfl (F::s) (by simp) (by simp[hF]) lab
  have hb:=fun(F:Ab.Loc) (hF:Loc.get F 336=some (.cell (trapV t (setB t)))) lab=>e_betw t (nodeN t.C i 0) (nodeN t.C j 0) (node_lt hok (by omega) (Nat.zero_le _)) (node_lt hok (by omega) (Nat.zero_le _)) s.length 336 (setB t) (setB_mag hok) (F::s) (by simp) (by simp[hF]) lab
  rw[betw_eq hok k3 (by omega) (Nat.zero_le _) (by omega) (Nat.zero_le _)]at hb
  rw[if_pos h]
  simp only[Int.toNat_natCast]
  generalize difR t j 0 i 0=b at*
  generalize setB t=B at*
  generalize nodeN t.C i 0=x at*
  generalize nodeN t.C j 0=y at*
  simp (maxSteps:=1000000) (disch:=first|omega|assumption|decide +kernel|(simp;done)|(simp;omega)|fail) [orSlow_none,c1,c2,ho,n1,n2,hb]
 ·have ho:=fun(F:Ab.Loc) lab=>e_open_no t hs _ h F s lab
  rw[if_neg h]
  cases c1:wiB i 0 j
  ·rw[c1]at ho h
   simp only[Bool.false_and]at ho h⊢
   simp (maxSteps:=1000000) (disch:=first|omega|assumption|decide +kernel|(simp;done)|(simp;omega)|fail) [orSlow_none,c1,ho,h]
  ·rw[c1]at ho h
   simp only[Bool.true_and]at ho h⊢
   by_cases c2:j<t.times
   ·simp only[c2,decide_true]at ho h⊢
    simp (maxSteps:=1000000) (disch:=first|omega|assumption|decide +kernel|(simp;done)|(simp;omega)|fail) [orSlow_none,c1,c2,ho,h]
   ·simp only[c2,decide_false]at ho h⊢
    simp (maxSteps:=1000000) (disch:=first|omega|assumption|decide +kernel|(simp;done)|(simp;omega)|fail) [orSlow_none,c1,c2,ho,h]
def judgeC(t:CTrap)(w:CWord):Int×Int:=if openT t (wordOk t w)=0 then(judgeS (difR t w.time.toNat w.chamber.toNat w.time.toNat (w.chamber.toNat+1)) w,0)else(0,openT t (wordOk t w))
set_option maxHeartbeats 1000000 in
theorem e_Judge(t:CTrap)(hs:ShortT t)(hB:trapB t=true)(w:CWord)(lab s):den T 83 [.agg (vT t), .agg [i64 w.time,i64 w.chamber,i64 w.lo,i64 w.hi]] lab s=some (.tup [i64 (judgeC t w).1,i64 (judgeC t w).2],s):=by
 have hp:=fun lab s=>e_isWord t (trapB_mid hB) w lab s
 unfold judgeC
 rw[den_fn t83 _ _ _ rfl]
 simp only[b83]
 by_cases h:openT t (wordOk t w)=0
 ·obtain⟨k1,k2,k3⟩:=openT_ok h
  have hok:=trapB_ok k1
  have ho:=fun(F:Ab.Loc) lab hF=>e_open_ok t hs _ h F s lab hF
  have hb:=wordOk_iff.1 k2
  have e1:t.C=t.chambers.toNat:=rfl
  have e2:t.T=t.times.toNat:=rfl
  have et:((w.time.toNat:Nat):Int)=w.time:=by omega
  have ec:((w.chamber.toNat:Nat):Int)=w.chamber:=by omega
  have hf:=fun(F:Ab.Loc) (hF:Loc.get F 224=some (.cell (trapV t (setB t)))) lab=>e_fish t hok s.length 224 w.time.toNat w.chamber.toNat (by omega) (by omega) (F::s) (by simp) (by simp[hF]) lab
  rw[betw_eq hok k3 (by omega) (by omega) (by omega) (by omega),et,ec]at hf
  rw[if_pos h]
  rw[k2]at ho
  unfold judgeS
  generalize difR t w.time.toNat w.chamber.toNat w.time.toNat (w.chamber.toNat+1)=b at*
  generalize setB t=B at*
  obtain⟨b1,b2⟩:=b
  obtain⟨t0,t1,t2,t3⟩:=w
  dsimp only at*
  by_cases q1:t2≤b1
  ·by_cases q2:b2≤t3
   ·simp (maxSteps:=1000000) (disch:=first|omega|assumption|decide +kernel|(simp;done)|(simp;omega)|fail) [orSlow_none,hp,k2,ho,hf,q1,q2]
   ·by_cases q3:t3<b1
    ·simp (maxSteps:=1000000) (disch:=first|omega|assumption|decide +kernel|(simp;done)|(simp;omega)|fail) [orSlow_none,hp,k2,ho,hf,q1,q2,q3]
    ·by_cases q4:b2<t2<;>simp (maxSteps:=1000000) (disch:=first|omega|assumption|decide +kernel|(simp;done)|(simp;omega)|fail) [orSlow_none,hp,k2,ho,hf,q1,q2,q3,q4]
  ·by_cases q3:t3<b1
   ·simp (maxSteps:=1000000) (disch:=first|omega|assumption|decide +kernel|(simp;done)|(simp;omega)|fail) [orSlow_none,hp,k2,ho,hf,q1,q3]
   ·by_cases q4:b2<t2<;>simp (maxSteps:=1000000) (disch:=first|omega|assumption|decide +kernel|(simp;done)|(simp;omega)|fail) [orSlow_none,hp,k2,ho,hf,q1,q3,q4]
 ·have ho:=fun(F:Ab.Loc) lab=>e_open_no t hs _ h F s lab
  rw[if_neg h]
  generalize wordOk t w=p at*
  simp (maxSteps:=1000000) (disch:=first|omega|assumption|decide +kernel|(simp;done)|(simp;omega)|fail) [orSlow_none,hp,ho,h]
end Go.Proofs.YthghcainodgnkaaGreat

/-
  Watch: counts.Truth, hasTruth (not built yet).
-/
namespace Go.Proofs.YthghcainodgnkaaGreat
open Go.Ab
def rowT(t:CTrap)(i c:Nat):Int:=(betwS (setB t) 0 (nodeN t.C i c)).lo-(betwS (setB t) 0 (nodeN t.C i (c+1))).lo
def rowTS(t:CTrap)(i:Nat)(R:List Int)(c:Nat):List Int:=R.set c (rowT t i c)
def rowTL(t:CTrap)(i:Nat):List Int:=(List.range t.C).foldl (rowTS t i) (List.replicate t.C 0)
theorem rowTS_len(t:CTrap)(i:Nat): ∀(l:List Nat) (R:List Int),(l.foldl (rowTS t i) R).length=R.length
 |[],_=>rfl
 |c::l,R=>by rw[List.foldl_cons,rowTS_len t i l];simp[rowTS]
@[simp] theorem rowTL_len(t i):(rowTL t i).length=t.C:=by unfold rowTL;rw[rowTS_len];simp
set_option maxHeartbeats 2000000 in
theorem e_Tr_l1(t:CTrap)(h:TrapOk t)(i:Nat)(hi0:i<t.T)(L:List (List Int))(s:Stk):
 Run T b69l1 [(4, .ptr s.length 192 0),(6, .sl (.own s.length 97) 1 (es cInts L)),(7,i64 i),(8, .asl s.length 496 1 t.C 0 t.C),(22,i64 t.times),(23,i64 i),(33,i64 t.C),(34,i64 0)] ([(16, .cell (vT t)),(192, .cell (trapV t (setB t))),(97, .tok L.length),(496, .arr 1 (es cInt (List.replicate t.C 0)))]::s)=some (.exit 2,[(4, .ptr s.length 192 0),(6, .sl (.own s.length 97) 1 (es cInts L)),(7,i64 i),(8, .asl s.length 496 1 t.C 0 t.C),(22,i64 t.times),(23,i64 i),(33,i64 t.C),(34,i64 ((List.range t.C).length:Nat)),(35, .bool false)],[(16, .cell (vT t)),(192, .cell (trapV t (setB t))),(97, .tok L.length),(496, .arr 1 (es cInt ((List.range t.C).foldl (rowTS t i) (List.replicate t.C 0))))]::s):=by
 have key:=loop_fold (T:=T) (live:=[4,6,7,8,22,23,33,34]) (keep:=[16,97,192,496,1008,1024]) (b:=d69l1) (List.range t.C) (fun _ R=>R.length=t.C) (rowTS t i) (fun k (a:List Int)=>[(4, .ptr s.length 192 0),(6, .sl (.own s.length 97) 1 (es cInts L)),(7,i64 i),(8, .asl s.length 496 1 t.C 0 t.C),(22,i64 t.times),(23,i64 i),(33,i64 t.C),(34,i64 (k:Nat))]) (fun k (a:List Int)=>[(16, .cell (vT t)),(192, .cell (trapV t (setB t))),(97, .tok L.length),(496, .arr 1 (es cInt a))]::s) (fun(a:List Int)=>(.exit 2,[(4, .ptr s.length 192 0),(6, .sl (.own s.length 97) 1 (es cInts L)),(7,i64 i),(8, .asl s.length 496 1 t.C 0 t.C),(22,i64 t.times),(23,i64 i),(33,i64 t.C),(34,i64 ((List.range t.C).length:Nat)),(35, .bool false)],[(16, .cell (vT t)),(192, .cell (trapV t (setB t))),(97, .tok L.length),(496, .arr 1 (es cInt a))]::s)) (by simp) ?_ ?_ ?_ (List.replicate t.C 0) (by simp) [(4, .ptr s.length 192 0),(6, .sl (.own s.length 97) 1 (es cInts L)),(7,i64 i),(8, .asl s.length 496 1 t.C 0 t.C),(22,i64 t.times),(23,i64 i),(33,i64 t.C),(34,i64 0)] ([(16, .cell (vT t)),(192, .cell (trapV t (setB t))),(97, .tok L.length),(496, .arr 1 (es cInt (List.replicate t.C 0)))]::s) (by simp) (by simp)
 ·exact key
 ·intro k a hk hi
  try simp only[List.length_range]at hk
  try simp only[List.getElem_range]
  have hc:=h.cc
  have e1:t.C=t.chambers.toNat:=rfl
  have hk2:(k:Int)<t.C:=by omega
  have hka:k<a.length:=by omega
  have b1:=node_lt h hi0 (Nat.le_of_lt hk)
  have b2:=node_lt h hi0 (show k+1≤t.C from hk)
  have n1:=fun(F:Ab.Loc) (hF:Loc.get F 192=some (.cell (trapV t (setB t)))) lab=>e_nodeI t (setB t) h s.length 192 i k hi0 (Nat.le_of_lt hk) i k rfl rfl (F::s) (by simp) (by simp[hF]) lab
  have n2:=fun(F:Ab.Loc) (hF:Loc.get F 192=some (.cell (trapV t (setB t)))) lab=>e_nodeI t (setB t) h s.length 192 i (k+1) hi0 (show k+1≤t.C from hk) i ((k:Int)+1) rfl rfl (F::s) (by simp) (by simp[hF]) lab
  have q1:=fun(F:Ab.Loc) (hF:Loc.get F 192=some (.cell (trapV t (setB t)))) lab=>e_betw t 0 (nodeN t.C i k) (by decide) b1 s.length 192 (setB t) (setB_mag h) (F::s) (by simp) (by simp[hF]) lab
  have q2:=fun(F:Ab.Loc) (hF:Loc.get F 192=some (.cell (trapV t (setB t)))) lab=>e_betw t 0 (nodeN t.C i (k+1)) (by decide) b2 s.length 192 (setB t) (setB_mag h) (F::s) (by simp) (by simp[hF]) lab
  simp only[show((0:Nat):Int)=0 from rfl]at q1 q2
  have m1: -10000000000000000≤gB (setB t) (nodeN t.C i k) 0∧gB (setB t) (nodeN t.C i k) 0≤1048576:=⟨(setB_mag h).lo _ _ b1 (by decide),(setB_mag h).hi _ _ b1 (by decide)⟩
  have m2: -10000000000000000≤gB (setB t) (nodeN t.C i (k+1)) 0∧gB (setB t) (nodeN t.C i (k+1)) 0≤1048576:=⟨(setB_mag h).lo _ _ b2 (by decide),(setB_mag h).hi _ _ b2 (by decide)⟩
  have m3:(betwS (setB t) 0 (nodeN t.C i k)).lo= -gB (setB t) (nodeN t.C i k) 0:=rfl
  have m4:(betwS (setB t) 0 (nodeN t.C i (k+1))).lo= -gB (setB t) (nodeN t.C i (k+1)) 0:=rfl
  have w1:IntKind.i64.wrap ((k:Int)+1)=(k:Int)+1:=wi _ (by omega) (by omega)
  unfold rowTS rowT
  have w2:IntKind.i64.wrap ((betwS (setB t) 0 (nodeN t.C i k)).lo-(betwS (setB t) 0 (nodeN t.C i (k+1))).lo)=(betwS (setB t) 0 (nodeN t.C i k)).lo-(betwS (setB t) 0 (nodeN t.C i (k+1))).lo:=wi _ (by omega) (by omega)
  have hset: ∀x:Int,(es cInt a).set k [i64 x]=es cInt (a.set k x):=fun x=>by simp[es,List.map_set]
  clear m1 m2 m3 m4
  clear e1
  generalize betwS (setB t) 0 (nodeN t.C i k)=x at*
  generalize betwS (setB t) 0 (nodeN t.C i (k+1))=y at*
  generalize nodeN t.C i k=u at*
  generalize nodeN t.C i (k+1)=v at*
  generalize setB t=B at*
  generalize t.C=C at*
  obtain⟨x1,x2⟩:=x
  obtain⟨y1,y2⟩:=y
  dsimp only at*
  simp (maxSteps:=1000000) (disch:=first|omega|assumption|decide +kernel|(simp;done)|(simp;omega)|fail) [run_drawnK,hk,hk2,hka,hi,n1,n2,q1,q2,w1,w2,hset]
 ·intro k a hk hi
  try simp only[List.length_range]at hk
  try simp only[List.getElem_range]
  simp[rowTS,hi]
 ·intro a hi
  simp
set_option maxHeartbeats 2000000 in
theorem e_Tr_l0(t:CTrap)(h:TrapOk t)(s:Stk):
 Run T b69l0 [(6, .sl (.own s.length 97) 1 []),(4, .ptr s.length 192 0),(6, .sl .full 1 []),(22,i64 t.times),(23,i64 0)] ([(16, .cell (vT t)),(192, .cell (trapV t (setB t))),(97, .tok 0)]::s)=some (.exit 0,[(4, .ptr s.length 192 0),(6, .sl (.own s.length 97) 1 (es cInts ((List.range t.T).foldl (fun L i=>L ++[rowTL t i]) ([]:List (List Int))))),(22,i64 t.times),(23,i64 ((List.range t.T).length:Nat)),(24, .bool false)],[(16, .cell (vT t)),(192, .cell (trapV t (setB t))),(97, .tok (((List.range t.T).foldl (fun L i=>L ++[rowTL t i]) ([]:List (List Int)))).length)]::s):=by
 have key:=loop_fold (T:=T) (live:=[4,6,22,23]) (keep:=[16,97,192]) (b:=d69l0) (List.range t.T) (fun k L=>L.length=k) (fun L i=>L ++[rowTL t i]) (fun k (a:List (List Int))=>[(4, .ptr s.length 192 0),(6, .sl (.own s.length 97) 1 (es cInts a)),(22,i64 t.times),(23,i64 (k:Nat))]) (fun k (a:List (List Int))=>[(16, .cell (vT t)),(192, .cell (trapV t (setB t))),(97, .tok (a).length)]::s) (fun(a:List (List Int))=>(.exit 0,[(4, .ptr s.length 192 0),(6, .sl (.own s.length 97) 1 (es cInts a)),(22,i64 t.times),(23,i64 ((List.range t.T).length:Nat)),(24, .bool false)],[(16, .cell (vT t)),(192, .cell (trapV t (setB t))),(97, .tok (a).length)]::s)) (by simp) ?_ ?_ ?_ ([]:List (List Int)) (by simp) [(6, .sl (.own s.length 97) 1 []),(4, .ptr s.length 192 0),(6, .sl .full 1 []),(22,i64 t.times),(23,i64 0)] ([(16, .cell (vT t)),(192, .cell (trapV t (setB t))),(97, .tok 0)]::s) (by simp) (by simp)
 ·exact key
 ·intro k a hk hi
  try simp only[List.length_range]at hk
  try simp only[List.getElem_range]
  have hc:=h.cc
  have ht:=h.tt
  have e1:t.C=t.chambers.toNat:=rfl
  have e2:t.T=t.times.toNat:=rfl
  have hk2:(k:Int)<t.times:=by omega
  have eC:t.chambers=((t.C:Nat):Int):=by omega
  have h1:=e_Tr_l1 t h k hk a s
  rw[show(List.range t.C).foldl (rowTS t k) (List.replicate t.C 0)=rowTL t k from rfl]at h1
  simp only[List.length_range]at h1
  have l3:List.replicate t.C [i64 0]=es cInt (List.replicate t.C 0):=by simp[es]
  have hlen:=rowTL_len t k
  have htake:(es cInt (rowTL t k)).take t.C=es cInt (rowTL t k):=List.take_of_length_le (by simp)
  have q1:(a.length+1)*24≤140737488355328:=by omega
  have q2:a.length+1<140737488355328:=by omega
  have q3:es cInts a ++[[.sl .no 1 (es cInt (rowTL t k))]]=es cInts (a ++[rowTL t k]):=by simp[es]
  have q4:(t.C:Int)<140737488355328:=by omega
  have q5:(t.C:Int)*8≤140737488355328:=by omega
  have q6: ¬(140737488355328:Int)<t.C*8:=by omega
  have q7: ¬(140737488355328:Int)≤t.C:=by omega
  rw[hi]at h1
  generalize rowTL t k=row at*
  have hCpos:0<t.C:=by omega
  clear e1 e2 ht
  generalize setB t=B at*
  obtain⟨ch,ti,op,wo⟩:=t
  obtain⟨C,rfl⟩: ∃C:Nat,ch=(C:Int):=⟨ch.toNat,by simp only at hc;omega⟩
  have eD:CTrap.C ⟨(C:Int),ti,op,wo⟩=C:=by simp[CTrap.C]
  simp only[eD]at*
  simp (maxSteps:=1000000) (disch:=first|omega|assumption|decide +kernel|(simp;done)|(simp;omega)|fail) [hk2,hi,h1,l3,hlen,htake,appK_own1,q1,q2,q3,q4,q5,q6,q7,eC,wk k (by omega)]
 ·intro k a hk hi
  try simp only[List.length_range]at hk
  try simp only[List.getElem_range]
  simp[hi]
 ·intro a hi
  have ht:=h.tt
  have e2:t.T=t.times.toNat:=rfl
  have hk3:((t.T:Nat):Int)=t.times:=by omega
  simp only[List.length_range,hk3]
  simp
end Go.Proofs.YthghcainodgnkaaGreat

/-
  Watch: counts.Truth and hasTruth.
-/
namespace Go.Proofs.YthghcainodgnkaaGreat
open Go.Ab
def rowsT(t:CTrap):List (List Int):=(List.range t.T).foldl (fun L i=>L ++[rowTL t i]) []
theorem rowsT_len(t):(rowsT t).length=t.T:=by
 unfold rowsT
 have: ∀(l:List Nat) (a:List (List Int)),(l.foldl (fun L i=>L ++[rowTL t i]) a).length=a.length+l.length:=fun l=>by
  induction l with
  |nil=>simp
  |cons x l ih=>intro a;rw[List.foldl_cons,ih];simp;omega
 rw[this];simp
def truthV(t:CTrap):V:=if openT t true=0 then .sl .no 1 (es cInts (rowsT t))else .sl .no 1 []
set_option maxHeartbeats 1000000 in
theorem e_Truth(t:CTrap)(hs:ShortT t)(lab s):den T 69 [.agg (vT t)] lab s=some (.tup [truthV t,i64 (openT t true)],s):=by
 unfold truthV
 rw[den_fn t69 _ _ _ rfl]
 simp only[b69]
 by_cases h:openT t true=0
 ·obtain⟨k1,k2,k3⟩:=openT_ok h
  have hok:=trapB_ok k1
  have ho:=fun(F:Ab.Loc) lab hF=>e_open_ok t hs true h F s lab hF
  have hl:=e_Tr_l0 t hok s
  rw[show(List.range t.T).foldl (fun L i=>L ++[rowTL t i]) []=rowsT t from rfl]at hl
  simp only[List.length_range]at hl
  have hr:=rowsT_len t
  have hd: ¬t.T<0:=by omega
  rw[if_pos h,h]
  generalize rowsT t=R at*
  generalize setB t=B at*
  generalize t.T=n at*
  simp (maxSteps:=1000000) (disch:=first|omega|assumption|decide +kernel|(simp;done)|(simp;omega)|fail) [orSlow_none,ho,hl,hr]
 ·have ho:=fun(F:Ab.Loc) lab=>e_open_no t hs true h F s lab
  rw[if_neg h]
  simp (maxSteps:=1000000) (disch:=first|omega|assumption|decide +kernel|(simp;done)|(simp;omega)|fail) [orSlow_none,ho,h]
theorem e_hasTruth(t:CTrap)(hs:ShortT t)(lab s):den T 122 [.agg (vT t)] lab s=some (.bool (decide (openT t true=0)),s):=by
 have h:=fun lab s=>e_Truth t hs lab s
 unfold truthV at h
 rw[den_fn t122 _ _ _ rfl]
 simp only[b122]
 by_cases h0:openT t true=0
 ·rw[if_pos h0]at h
  simp (disch:=first|omega|assumption|decide +kernel|(simp;done)|(simp;omega)|fail) [h,h0]
 ·rw[if_neg h0]at h
  simp (disch:=first|omega|assumption|decide +kernel|(simp;done)|(simp;omega)|fail) [h,h0]
end Go.Proofs.YthghcainodgnkaaGreat

/-
  Watch: the reference of counts: a matrix of spans in a lower frame; cut and differ.
-/
namespace Go.Proofs.YthghcainodgnkaaGreat
open Go.Ab
theorem sget_put_other: ∀(s:Stk) (d k l:Nat) (x:Entry),l≠k→sget (sput s d k x) d l=sget s d l
 |[],_,_,_,_,_=>rfl
 |F::s,d,k,l,x,hn=>by
   by_cases e:d=s.length
   ·simp only[sget,sput,if_pos e]
    have: ∀F:Ab.Loc,Loc.get (Loc.put F k x) l=Loc.get F l:=fun F=>by
     induction F with
     |nil=>simp[Loc.put,Loc.get,hn]
     |cons a F ih=>
       obtain⟨m,z⟩:=a
       by_cases e1:k=m
       ·subst e1;simp[Loc.put,Loc.get,hn]
       ·by_cases e2:l=m
        ·subst e2;simp[Loc.put,Loc.get,e1]
        ·simp only[Loc.put,Loc.get,if_neg e1,if_neg e2,ih]
    exact this F
   ·simp only[sget,sput,sput_length,if_neg e,sget_put_other s d k l x hn]
def putM(s:Stk)(d:Nat):Nat→CMat→Stk
 |_,[]=>s
 |b,r::R=>sput (putM s d (b+1000) R) d b (.arr 2 (es cCSp r))
@[simp] theorem putM_length(s d): ∀(R:CMat) (b:Nat),(putM s d b R).length=s.length
 |[],_=>rfl
 |r::R,b=>by rw[putM,sput_length,putM_length s d R]
def ptrM(d l z n:Nat):List (List V):=(List.range n).map fun i=>[.asl d (l+1000*i) 2 z 0 z]
@[simp] theorem ptrM_length(d l z n):(ptrM d l z n).length=n:=by simp[ptrM]
@[simp] theorem ptrM_get? (d l z n i:Nat):(ptrM d l z n)[i]? =if i<n then some [.asl d (l+1000*i) 2 z 0 z] else none:=by
 unfold ptrM;rw[List.getElem?_map]
 by_cases h:i<n<;>simp[h]
@[simp] theorem ptrM_get(d l z n i:Nat)(h:i<(ptrM d l z n).length):(ptrM d l z n)[i]=[.asl d (l+1000*i) 2 z 0 z]:=by simp[ptrM]
end Go.Proofs.YthghcainodgnkaaGreat

/-
  Watch: the reference's differ.
-/
namespace Go.Proofs.YthghcainodgnkaaGreat
open Go.Ab
end Go.Proofs.YthghcainodgnkaaGreat

/-
  Watch: the reference's settle: its loops over chambers and times.
-/
namespace Go.Proofs.YthghcainodgnkaaGreat
open Go.Ab
theorem InvS.chk {T C M S}(h:InvS T C M S)(hM:M≤999000):InvS T C 999000 S:=h.weaken hM
section
variable (t : CTrap) (C n : Nat) (d l b : Nat) (s : Stk) (S : CMat) (hd2 : ¬ d = s.length) (g0 : sget (putM s d b S) d l = some (.arr 1 (ptrM d b (C + 1) n))) (i k : Nat) (hi0 : i < n) (hk : k < C + 1) (L : List (List V)) (g1 : sget (putM s d b S) d (b + 1000 * i) = some (.arr 2 L)) (n1 : L.length = C + 1) (x : CSp) (q1 : L[k]? = some [i64 x.lo, i64 x.hi]) (ch : Bool)
include hd2 g0 hi0 hk g1 n1 q1
end
end Go.Proofs.YthghcainodgnkaaGreat

/-
  Watch: the reference's settle: its loop over chambers.
-/
namespace Go.Proofs.YthghcainodgnkaaGreat
open Go.Ab
section
variable (t : CTrap) (C n : Nat) (d l b : Nat) (s : Stk) (S S1 S2 : CMat) (k : Nat) (ch c1 c2 : Bool)
end
section
variable (t : CTrap) (h : TrapOk t) (hop : ∀ l, l ∈ t.opn → l.length < 4611686018427387904) (d l b : Nat) (s : Stk) (hd : d < s.length) (hl : ∀ i, i < t.T → l ≠ b + 1000 * i) (hs : sget s d l = some (.arr 1 (ptrM d b (t.C + 1) t.T)))
include h hop hd hl hs
end
end Go.Proofs.YthghcainodgnkaaGreat

/-
  Watch: the reference's settle: a pass (not built yet).
-/
namespace Go.Proofs.YthghcainodgnkaaGreat
open Go.Ab
section
variable (t : CTrap) (h : TrapOk t) (hop : ∀ l, l ∈ t.opn → l.length < 4611686018427387904) (d l b : Nat) (s : Stk) (hd : d < s.length) (hl : ∀ i, i < t.T → l ≠ b + 1000 * i) (hs : sget s d l = some (.arr 1 (ptrM d b (t.C + 1) t.T)))
include h hop hd hl hs
end
end Go.Proofs.YthghcainodgnkaaGreat

/-
  Watch: the reference's settle: is anything empty at the end.
-/
namespace Go.Proofs.YthghcainodgnkaaGreat
open Go.Ab
section
variable (t : CTrap) (C n : Nat) (d l b : Nat) (s : Stk) (S : CMat) (hd2 : ¬ d = s.length) (g0 : sget (putM s d b S) d l = some (.arr 1 (ptrM d b (C + 1) n))) (i k : Nat) (hi0 : i < n) (hk : k < C + 1) (L : List (List V)) (g1 : sget (putM s d b S) d (b + 1000 * i) = some (.arr 2 L)) (n1 : L.length = C + 1) (x : CSp) (q1 : L[k]? = some [i64 x.lo, i64 x.hi])
include hd2 g0 hi0 hk g1 n1 q1
end
section
variable (t : CTrap) (h : TrapOk t) (d l b : Nat) (s : Stk) (S : CMat) (hS : Shape t.T t.C S) (hd : d < s.length) (hl : ∀ i, i < t.T → l ≠ b + 1000 * i) (hs : sget s d l = some (.arr 1 (ptrM d b (t.C + 1) t.T)))
include h hS hd hl hs
end
end Go.Proofs.YthghcainodgnkaaGreat

/-
  Watch: the reference's settle, whole.
-/
namespace Go.Proofs.YthghcainodgnkaaGreat
open Go.Ab
section
variable (t : CTrap) (h : TrapOk t) (hop : ∀ l, l ∈ t.opn → l.length < 4611686018427387904) (d l b : Nat) (s : Stk) (hd : d < s.length) (hl : ∀ i, i < t.T → l ≠ b + 1000 * i) (hs : sget s d l = some (.arr 1 (ptrM d b (t.C + 1) t.T)))
include h hop hd hl hs
end
end Go.Proofs.YthghcainodgnkaaGreat

/-
  Watch: the reference's free.
-/
namespace Go.Proofs.YthghcainodgnkaaGreat
open Go.Ab
end Go.Proofs.YthghcainodgnkaaGreat

/-
  Watch: the reference's free, whole (not built yet).
-/
namespace Go.Proofs.YthghcainodgnkaaGreat
open Go.Ab
def FreeAt(F:Ab.Loc)(lab:Nat):Prop:= ∀i,i≤5→Loc.get F (lab+1000*i)=none
theorem FreeAt.all {F lab}(h:FreeAt F lab):Loc.get F lab=none∧Loc.get F (lab+1000)=none∧Loc.get F (lab+2000)=none∧Loc.get F (lab+3000)=none∧Loc.get F (lab+4000)=none∧Loc.get F (lab+5000)=none:=
 ⟨h 0 (by omega),h 1 (by omega),h 2 (by omega),h 3 (by omega),h 4 (by omega),h 5 (by omega)⟩
end Go.Proofs.YthghcainodgnkaaGreat

/-
  Watch: the reference's IsOne (not built yet).
-/
namespace Go.Proofs.YthghcainodgnkaaGreat
open Go.Ab
end Go.Proofs.YthghcainodgnkaaGreat

/-
  Watch: the reference's Check, ask, known.
-/
namespace Go.Proofs.YthghcainodgnkaaGreat
open Go.Ab
theorem e_chk01_l0(t:CTrap)(hm:Mid t)(hs:ShortT t)(s:Stk):
 Run T b95l0 [(1, .ptr s.length 16 0),(3,i64 0)] ([(16, .cell (vT t))]::s)=
  if allB (fun l=>rising l 0 (t.chambers-1)) t.opn=true then some (.exit 0,[(1, .ptr s.length 16 0),(3,i64 t.opn.length),(34, .bool false)],[(16, .cell (vT t))]::s)
  else some (.ret,[(2,i64 10)],[(16, .cell (vT t))]::s):=by
 obtain⟨⟨m1,m2⟩,_⟩:=hm
 have w1:IntKind.i64.wrap (t.chambers-1)=t.chambers-1:=wi _ (by omega) (by omega)
 refine loop_all t.opn (fun l=>rising l 0 (t.chambers-1)) (fun k=>[(1, .ptr s.length 16 0),(3,i64 k)]) (fun _=>[(16, .cell (vT t))]::s) _ _ (by simp) (by simp) ?_ (by simp) _ _ (by simp) (by simp)
 intro k hk
 have hlo:=hs.opn
 have hk2:(k:Int)<t.opn.length:=by omega
 have hl:=hs.each _ (List.getElem_mem hk)
 cases hr:rising t.opn[k] 0 (t.chambers-1)
 ·simp (maxSteps:=1000000) (disch:=first|omega|assumption|decide +kernel|(simp;done)|(simp;omega)|fail) [run_drawnK,hk,hk2,hl,hr,w1,wk k (by omega)]
 ·simp (maxSteps:=1000000) (disch:=first|omega|assumption|decide +kernel|(simp;done)|(simp;omega)|fail) [run_drawnK,hk,hk2,hl,hr,w1,wk k (by omega)]
theorem e_chk01_l1(t:CTrap)(hm:Mid t)(hs:ShortT t)(s:Stk):
 Run T b95l1 [(1, .ptr s.length 16 0),(4,i64 0)] ([(16, .cell (vT t))]::s)=
  if allB (fun w=>wordOk t w) t.words=true then some (.exit 2,[(1, .ptr s.length 16 0),(4,i64 t.words.length),(51, .bool false)],[(16, .cell (vT t))]::s)
  else some (.ret,[(2,i64 10)],[(16, .cell (vT t))]::s):=by
 refine loop_all t.words (fun w=>wordOk t w) (fun k=>[(1, .ptr s.length 16 0),(4,i64 k)]) (fun _=>[(16, .cell (vT t))]::s) _ _ (by simp) (by simp) ?_ (by simp) _ _ (by simp) (by simp)
 intro k hk
 have hlo:=hs.words
 have hk2:(k:Int)<t.words.length:=by omega
 have hw:=fun lab s=>e_isWord01 t hm t.words[k] lab s
 cases hr:wordOk t t.words[k]
 ·simp (maxSteps:=1000000) (disch:=first|omega|assumption|decide +kernel|(simp;done)|(simp;omega)|fail) [run_drawnK,hk,hk2,hw,hr,wk k (by omega)]
 ·simp (maxSteps:=1000000) (disch:=first|omega|assumption|decide +kernel|(simp;done)|(simp;omega)|fail) [run_drawnK,hk,hk2,hw,hr,wk k (by omega)]
set_option maxHeartbeats 1000000 in
theorem e_Check01(t:CTrap)(hs:ShortT t)(lab s):den T 95 [.agg (vT t)] lab s=some (i64 (if trapB t=true then 0 else 10),s):=by
 have ho:=hs.opn
 have hw:=hs.words
 rw[den_fn t95 _ _ _ rfl]
 simp only[b95]
 unfold trapB
 cases c1:wiB t.chambers 1 4
 ·simp (maxSteps:=1000000) (disch:=first|omega|assumption|decide +kernel|(simp;done)|(simp;omega)|fail) [c1]
 cases c2:wiB t.times 1 5
 ·simp (maxSteps:=1000000) (disch:=first|omega|assumption|decide +kernel|(simp;done)|(simp;omega)|fail) [c1,c2]
 have hm:Mid t:=TrapOk.mid (wiB_iff.1 c1) (wiB_iff.1 c2)
 have w1:IntKind.i64.wrap (t.times-1)=t.times-1:=by have:=(wiB_iff.1 c2);exact wi _ (by omega) (by omega)
 by_cases c3:(t.opn.length:Int)=t.times-1
 rotate_left
 ·simp (maxSteps:=1000000) (disch:=first|omega|assumption|decide +kernel|(simp;done)|(simp;omega)|fail) [c1,c2,c3,w1]
 by_cases c4:t.words.length≤8
 rotate_left
 ·have c4':(8:Int)<t.words.length:=by omega
  simp (maxSteps:=1000000) (disch:=first|omega|assumption|decide +kernel|(simp;done)|(simp;omega)|fail) [c1,c2,c3,c4,c4',w1]
 have c4': ¬(8:Int)<t.words.length:=by omega
 have h0:=e_chk01_l0 t hm hs s
 have h1:=e_chk01_l1 t hm hs s
 cases c5:allB (fun l=>rising l 0 (t.chambers-1)) t.opn
 ·rw[c5]at h0
  simp only[Bool.false_eq_true,if_false]at h0
  simp (maxSteps:=1000000) (disch:=first|omega|assumption|decide +kernel|(simp;done)|(simp;omega)|fail) [c1,c2,c3,c4,c4',c5,w1,h0]
 ·rw[c5]at h0
  simp only[if_true]at h0
  cases c6:allB (fun w=>wordOk t w) t.words
  ·rw[c6]at h1
   simp only[Bool.false_eq_true,if_false]at h1
   simp (maxSteps:=1000000) (disch:=first|omega|assumption|decide +kernel|(simp;done)|(simp;omega)|fail) [c1,c2,c3,c4,c4',c5,c6,w1,h0,h1]
  ·rw[c6]at h1
   simp only[if_true]at h1
   simp (maxSteps:=1000000) (disch:=first|omega|assumption|decide +kernel|(simp;done)|(simp;omega)|fail) [c1,c2,c3,c4,c4',c5,c6,w1,h0,h1]
end Go.Proofs.YthghcainodgnkaaGreat

/-
  Watch: what a matrix in a frame answers.
-/
namespace Go.Proofs.YthghcainodgnkaaGreat
open Go.Ab
theorem distinct_append {a b:List Nat}(h1:Ab.distinct a=true)(h2:Ab.distinct b=true)(h: ∀x,x∈a→x∉b):Ab.distinct (a ++b)=true:=by
 induction a with
 |nil=>exact h2
 |cons x a ih=>
   simp only[List.cons_append,Ab.distinct,Bool.and_eq_true,Bool.not_eq_true']at h1⊢
   refine⟨?_,ih h1.2 fun y hy=>h y (List.mem_cons_of_mem _ hy)⟩
   have hx:=h x (List.mem_cons_self ..)
   have h0:=h1.1
   simp only[List.contains_eq_mem,decide_eq_false_iff_not]at h0⊢
   intro hm
   rcases List.mem_append.1 hm with hm|hm
   ·exact h0 hm
   ·exact hx hm
end Go.Proofs.YthghcainodgnkaaGreat

/-
  Watch: the reference's difference: what a truth's number adds (not built yet).
-/
namespace Go.Proofs.YthghcainodgnkaaGreat
open Go.Ab
end Go.Proofs.YthghcainodgnkaaGreat

/-
  Watch: the reference's difference (not built yet).
-/
namespace Go.Proofs.YthghcainodgnkaaGreat
open Go.Ab
section
variable (d z : Nat) (S1 S2 : CMat) (o : CSp) (h1 : S1.length ≤ 5) (h2 : S2.length ≤ 5)
end
end Go.Proofs.YthghcainodgnkaaGreat

/-
  Watch: the reference's difference: a round (not built yet).
-/
namespace Go.Proofs.YthghcainodgnkaaGreat
open Go.Ab
end Go.Proofs.YthghcainodgnkaaGreat

/-
  Watch: the reference's difference, whole (not built yet).
-/
namespace Go.Proofs.YthghcainodgnkaaGreat
open Go.Ab
section
variable (t : CTrap) (h : TrapOk t) (hop : ∀ l, l ∈ t.opn → l.length < 4611686018427387904) (s : Stk) (i c j d : Nat) (hi : i < t.T) (hc : c ≤ t.C) (hj : j < t.T) (hd : d ≤ t.C)
include h hop hi hc hj hd
end
end Go.Proofs.YthghcainodgnkaaGreat

/-
  Watch: the reference's FishOf, Came.
-/
namespace Go.Proofs.YthghcainodgnkaaGreat
open Go.Ab
end Go.Proofs.YthghcainodgnkaaGreat

/-
  Watch: the reference's Copy (not built yet).
-/
namespace Go.Proofs.YthghcainodgnkaaGreat
open Go.Ab
def cpyF(t:CTrap)(d:Nat)(wE:Ab.Loc)(wv:V)(a:List (List Int)):Ab.Loc:=
 (16, .cell (vT t))::(32, .cell [i64 0,i64 0, .sl .full 1 [], .sl .full 4 []])::(wE ++[(48, .cell [i64 t.chambers,i64 t.times, .sl (.own d 52) 1 (es cInts a),wv]),(52, .tok a.length)])
set_option maxHeartbeats 2000000 in
theorem e_Copy_l0(t:CTrap)(hs:ShortT t)(ho:t.opn.length<5864062014800)(he: ∀l,l∈t.opn→l.length<17592186044416)(hw:t.words=[])(s:Stk):
 Run T b81l0 [(1, .ptr s.length 16 0),(2, .ptr s.length 32 0),(3, .ptr s.length 48 0),(4,i64 0)] (cpyF t s.length [] (.sl .full 4 []) []::s)=
  some (.exit 0,[(1, .ptr s.length 16 0),(2, .ptr s.length 32 0),(3, .ptr s.length 48 0),(4,i64 t.opn.length),(18, .bool false)],cpyF t s.length [] (.sl .full 4 []) t.opn::s):=by
 have key:=loop_fold (T:=T) (live:=[1,2,3,4]) (keep:=[16,32,48,52,144,192]) (b:=d81l0) t.opn (fun k (a:List (List Int))=>a.length=k) (fun a x=>a ++[x])
  (fun k _=>[(1, .ptr s.length 16 0),(2, .ptr s.length 32 0),(3, .ptr s.length 48 0),(4,i64 k)]) (fun _ a=>cpyF t s.length [] (.sl .full 4 []) a::s)
  (fun a=>(.exit 0,[(1, .ptr s.length 16 0),(2, .ptr s.length 32 0),(3, .ptr s.length 48 0),(4,i64 t.opn.length),(18, .bool false)],cpyF t s.length [] (.sl .full 4 []) a::s))
  (by simp) ?_ ?_ ?_ [] (by simp) [(1, .ptr s.length 16 0),(2, .ptr s.length 32 0),(3, .ptr s.length 48 0),(4,i64 0)] (cpyF t s.length [] (.sl .full 4 []) []::s) (by simp) (by simp[cpyF])
 ·have e: ∀(l a:List (List Int)),l.foldl (fun a x=>a ++[x]) a=a ++l:=by
   intro l
   induction l with
   |nil=>simp
   |cons x r ih=>intro a;simp[ih]
  rw[e,List.nil_append]at key
  exact key
 ·intro k a hk hi
  subst hi
  have hx:=he t.opn[a.length] (List.getElem_mem hk)
  have hk2:(a.length:Int)<t.opn.length:=by omega
  have e0: ∀x,es cInts a ++[[.sl .no 1 (es cInt x)]]=es cInts (a ++[x]):=fun x=>by simp[es]
  generalize hR:t.opn[a.length]=R at*
  by_cases h0:R=[]
  ·subst h0
   have e0:=e0 []
   simp only[es_nil]at e0
   simp (maxSteps:=1000000) (disch:=first|omega|assumption|decide +kernel|(simp;done)|(simp;omega)|fail) [run_drawnK,cpyF,hk,hk2,hR,e0,appD_full_nil,appK_own1,wk a.length (by omega)]
  ·have hne:es cInt R≠[]:=by simpa using h0
   simp (maxSteps:=1000000) (disch:=first|omega|assumption|decide +kernel|(simp;done)|(simp;omega)|fail) [run_drawnK,cpyF,hk,hk2,hR,e0,hne,appD_full,appK_own1,wk a.length (by omega)]
 ·intro k a hk hi
  simp[hi]
 ·intro a hi
  simp[cpyF]
set_option maxHeartbeats 2000000 in
theorem e_Copy_l1(t:CTrap)(hs:ShortT t)(ho:t.opn.length<5864062014800)(he: ∀l,l∈t.opn→l.length<17592186044416)(hw:t.words≠[])(s:Stk):
 Run T b81l0 [(1, .ptr s.length 16 0),(2, .ptr s.length 32 0),(3, .ptr s.length 48 0),(4,i64 0)] (cpyF t s.length [(192, .tok t.words.length)] (.sl (.own s.length 192) 4 (es cWord t.words)) []::s)=
  some (.exit 0,[(1, .ptr s.length 16 0),(2, .ptr s.length 32 0),(3, .ptr s.length 48 0),(4,i64 t.opn.length),(18, .bool false)],cpyF t s.length [(192, .tok t.words.length)] (.sl (.own s.length 192) 4 (es cWord t.words)) t.opn::s):=by
 have key:=loop_fold (T:=T) (live:=[1,2,3,4]) (keep:=[16,32,48,52,144,192]) (b:=d81l0) t.opn (fun k (a:List (List Int))=>a.length=k) (fun a x=>a ++[x])
  (fun k _=>[(1, .ptr s.length 16 0),(2, .ptr s.length 32 0),(3, .ptr s.length 48 0),(4,i64 k)]) (fun _ a=>cpyF t s.length [(192, .tok t.words.length)] (.sl (.own s.length 192) 4 (es cWord t.words)) a::s)
  (fun a=>(.exit 0,[(1, .ptr s.length 16 0),(2, .ptr s.length 32 0),(3, .ptr s.length 48 0),(4,i64 t.opn.length),(18, .bool false)],cpyF t s.length [(192, .tok t.words.length)] (.sl (.own s.length 192) 4 (es cWord t.words)) a::s))
  (by simp) ?_ ?_ ?_ [] (by simp) [(1, .ptr s.length 16 0),(2, .ptr s.length 32 0),(3, .ptr s.length 48 0),(4,i64 0)] (cpyF t s.length [(192, .tok t.words.length)] (.sl (.own s.length 192) 4 (es cWord t.words)) []::s) (by simp) (by simp[cpyF])
 ·have e: ∀(l a:List (List Int)),l.foldl (fun a x=>a ++[x]) a=a ++l:=by
   intro l
   induction l with
   |nil=>simp
   |cons x r ih=>intro a;simp[ih]
  rw[e,List.nil_append]at key
  exact key
 ·intro k a hk hi
  subst hi
  have hx:=he t.opn[a.length] (List.getElem_mem hk)
  have hk2:(a.length:Int)<t.opn.length:=by omega
  have e0: ∀x,es cInts a ++[[.sl .no 1 (es cInt x)]]=es cInts (a ++[x]):=fun x=>by simp[es]
  generalize hR:t.opn[a.length]=R at*
  by_cases h0:R=[]
  ·subst h0
   have e0:=e0 []
   simp only[es_nil]at e0
   simp (maxSteps:=1000000) (disch:=first|omega|assumption|decide +kernel|(simp;done)|(simp;omega)|fail) [run_drawnK,cpyF,hk,hk2,hR,e0,appD_full_nil,appK_own1,wk a.length (by omega)]
  ·have hne:es cInt R≠[]:=by simpa using h0
   simp (maxSteps:=1000000) (disch:=first|omega|assumption|decide +kernel|(simp;done)|(simp;omega)|fail) [run_drawnK,cpyF,hk,hk2,hR,e0,hne,appD_full,appK_own1,wk a.length (by omega)]
 ·intro k a hk hi
  simp[hi]
 ·intro a hi
  simp[cpyF]
set_option maxHeartbeats 2000000 in
theorem e_Copy01g_0(t:CTrap)(hs:ShortT t)(ho:t.opn.length<5864062014800)(he: ∀l,l∈t.opn→l.length<17592186044416)(hw:t.words=[])(loc:Ab.Loc)(s:Stk)(lab:Nat)(k0:loc.get lab=none):
 den T 81 [.agg (vT t)] lab (loc::s)=some (.agg [i64 t.chambers,i64 t.times, .sl (.own s.length lab) 1 (es cInts t.opn), .sl .full 4 []],loc.put lab (.tok t.opn.length)::s):=by
 have key:=e_Copy_l0 t hs ho he hw (loc::s)
 simp only[cpyF,List.length_cons,es_nil,List.length_nil,List.nil_append,List.cons_append]at key
 rw[den_fn t81 _ _ _ rfl]
 simp only[b81]
 simp (maxSteps:=6000000) (disch:=first|omega|assumption|decide +kernel|(simp;done)|(simp;omega)|fail) [run_drawnK,hw,appD_full_nil,key,k0]
set_option maxHeartbeats 2000000 in
theorem e_Copy01g_1(t:CTrap)(hs:ShortT t)(ho:t.opn.length<5864062014800)(hwl:t.words.length<4398046511104)(he: ∀l,l∈t.opn→l.length<17592186044416)(hw:t.words≠[])(loc:Ab.Loc)(s:Stk)(lab:Nat)(k0:loc.get lab=none)(k1:loc.get (lab+1000)=none):
 den T 81 [.agg (vT t)] lab (loc::s)=some (.agg [i64 t.chambers,i64 t.times, .sl (.own s.length lab) 1 (es cInts t.opn), .sl (.own s.length (lab+1000)) 4 (es cWord t.words)],(loc.put lab (.tok t.opn.length)).put (lab+1000) (.tok t.words.length)::s):=by
 have key:=e_Copy_l1 t hs ho he hw (loc::s)
 simp only[cpyF,List.length_cons,es_nil,List.length_nil,List.nil_append,List.cons_append]at key
 have hne:es cWord t.words≠[]:=by simpa using hw
 rw[den_fn t81 _ _ _ rfl]
 simp only[b81]
 simp (maxSteps:=6000000) (disch:=first|omega|assumption|decide +kernel|(simp;done)|(simp;omega)|fail) [run_drawnK,hne,appD_full,key,k0,k1]
end Go.Proofs.YthghcainodgnkaaGreat

/-
  Watch: the reference's Told, Judge.
-/
namespace Go.Proofs.YthghcainodgnkaaGreat
open Go.Ab
@[simp] theorem frzE_tok(l e loc r n):frzE l e loc r (some (.tok n))=(e,loc::r):=rfl
structure CopyT(t:CTrap):Prop where
 opn:t.opn.length<1000000
 words:t.words.length<1000000
 each: ∀l,l∈t.opn→l.length<1000000
theorem CopyT.short {t:CTrap}(h:CopyT t):ShortT t:=⟨by have:=h.opn;omega,by have:=h.words;omega,fun l hl=>by have:=h.each l hl;omega⟩
end Go.Proofs.YthghcainodgnkaaGreat

/-
  Watch: the reference's Judge, Known.
-/
namespace Go.Proofs.YthghcainodgnkaaGreat
open Go.Ab
end Go.Proofs.YthghcainodgnkaaGreat

/-
  Watch: the reference's Without, Known.
-/
namespace Go.Proofs.YthghcainodgnkaaGreat
open Go.Ab
end Go.Proofs.YthghcainodgnkaaGreat

/-
  Watch: the reference's small functions; CanBe.
-/
namespace Go.Proofs.YthghcainodgnkaaGreat
open Go.Ab
abbrev vB(b:WBook):List V:=[i64 b.trap.chambers,i64 b.trap.times, .sl .no 1 (es cInts b.trap.opn), .sl .no 4 (es cWord b.trap.words),i64 b.drunk,i64 b.run, .sl .no 1 (es cInt b.sober)]
structure CopyB(b:WBook):Prop where
 trap:CopyT b.trap
 sober:b.sober.length<1000000
def bookB(b:WBook):Bool:=trapB b.trap&&(wiB b.drunk 0 5&&(wiB b.run 0 5&&rising b.sober 0 (b.trap.times-1)))
theorem e_Check11(b:WBook)(hc:CopyB b)(lab s):den T 40 [.agg (vB b)] lab s=some (i64 (if bookB b=true then 0 else 110),s):=by
 have h:=fun lab s=>e_Check01 b.trap hc.trap.short lab s
 have h1:=hc.sober
 unfold bookB
 rw[den_fn t40 _ _ _ rfl]
 simp only[b40]
 cases c1:trapB b.trap
 ·simp (maxSteps:=1000000) (disch:=first|omega|assumption|decide +kernel|(simp;done)|(simp;omega)|fail) [h,c1]
 have hok:=(trapB_ok c1).tt
 have w1:IntKind.i64.wrap (b.trap.times-1)=b.trap.times-1:=wi _ (by omega) (by omega)
 cases c2:wiB b.drunk 0 5
 ·simp (maxSteps:=1000000) (disch:=first|omega|assumption|decide +kernel|(simp;done)|(simp;omega)|fail) [h,c1,c2]
 cases c3:wiB b.run 0 5
 ·simp (maxSteps:=1000000) (disch:=first|omega|assumption|decide +kernel|(simp;done)|(simp;omega)|fail) [h,c1,c2,c3]
 cases c4:rising b.sober 0 (b.trap.times-1)<;>simp (maxSteps:=1000000) (disch:=first|omega|assumption|decide +kernel|(simp;done)|(simp;omega)|fail) [h,c1,c2,c3,c4,w1]
def ask11(b:WBook)(is:Bool):Int:=if bookB b=true then(if is=true then 0 else 1)else 110
end Go.Proofs.YthghcainodgnkaaGreat

/-
  Watch: the reference's CanBe, whole.
-/
namespace Go.Proofs.YthghcainodgnkaaGreat
open Go.Ab
end Go.Proofs.YthghcainodgnkaaGreat

/-
  Watch: the reference's TrapOf, IsStory (not built yet).
-/
namespace Go.Proofs.YthghcainodgnkaaGreat
open Go.Ab
end Go.Proofs.YthghcainodgnkaaGreat

/-
  Watch: the reference's lists.
-/
namespace Go.Proofs.YthghcainodgnkaaGreat
open Go.Ab
end Go.Proofs.YthghcainodgnkaaGreat

/-
  Watch: the reference's stories (not built yet).
-/
namespace Go.Proofs.YthghcainodgnkaaGreat
open Go.Ab
theorem bookB_trap {b:WBook}(h:bookB b=true):trapB b.trap=true:=by
 simp only[bookB,Bool.and_eq_true]at h;exact h.1
theorem bookB_ok {b:WBook}(h:bookB b=true):BookOk b:=by
 simp only[bookB,Bool.and_eq_true,wiB_iff]at h
 obtain⟨h1,h2,h3,h4⟩:=h
 obtain⟨r1,r2⟩:=rising_iff.1 h4
 have hok:=trapB_ok h1
 have htt:=hok.tt
 refine⟨hok,h2,h3,allL_mem.2 ⟨r1,fun y hy=> ?_⟩⟩
 have:=r2 y hy
 have e:b.T=b.trap.times.toNat:=rfl
 omega
end Go.Proofs.YthghcainodgnkaaGreat

/-
  Watch: the reference's known, Stories, Least, Good, Drunk.
-/
namespace Go.Proofs.YthghcainodgnkaaGreat
open Go.Ab
def open11(b:WBook)(is:Bool):Int:=if ask11 b is=0 then(if storiesL b=[]then 3 else 0)else ask11 b is
theorem ask11_ok {b:WBook} {is:Bool}(h:ask11 b is=0):bookB b=true∧is=true:=by
 unfold ask11 at h
 cases h1:bookB b
 ·rw[h1]at h;simp at h
 ·cases is
  ·rw[h1]at h;simp at h
  ·exact⟨rfl,rfl⟩
theorem open11_ok {b:WBook} {is:Bool}(h:open11 b is=0):bookB b=true∧is=true∧storiesL b≠[]:=by
 unfold open11 at h
 by_cases h1:ask11 b is=0
 ·rw[if_pos h1]at h
  obtain⟨k1,k2⟩:=ask11_ok h1
  refine⟨k1,k2,fun e=> ?_⟩
  rw[if_pos e]at h;simp at h
 ·rw[if_neg h1]at h;exact absurd h h1
theorem stories_len {b:WBook}(h:bookB b=true):(storiesL b).length≤65536∧ ∀l,l∈storiesL b→l.length≤5∧l.Pairwise (· < ·)∧ ∀y,y∈l→0≤y∧y<b.T:=by
 have hok:=bookB_ok h
 have hdr:=hok.drunk
 have htt:=hok.trap.tt
 have eT:b.T=b.trap.times.toNat:=rfl
 constructor
 ·have hs:(storiesL b).length≤(allL b.T).length:=List.length_filter_le ..
  have ha: ∀n,n<6→(allL n).length≤65536:=by decide +kernel
  have:=ha b.T (by omega)
  omega
 ·intro l hl
  rw[storiesL_at]at hl
  obtain⟨m,hm,hl⟩:=List.mem_flatMap.1 hl
  have hm:=List.mem_range.1 hm
  obtain⟨q1,q2,q3⟩:=listsP_in (List.mem_filter.1 hl).1
  exact⟨by omega,q2,q3⟩
end Go.Proofs.YthghcainodgnkaaGreat

/-
  Watch: the reference's with, Drunk, Must, Ask.
-/
namespace Go.Proofs.YthghcainodgnkaaGreat
open Go.Ab
theorem in_contains(l:List Int)(n:Int):anyB (fun x=>decide (x=n)) l=l.contains n:=by
 rw[Bool.eq_iff_iff]
 simp only[anyB,List.any_eq_true,decide_eq_true_eq,List.contains_eq_mem]
 exact⟨fun⟨y,h1,h2⟩=>h2▸h1,fun h=>⟨_,h,rfl⟩⟩
end Go.Proofs.YthghcainodgnkaaGreat

/-
  Watch: the reference's Must, Ask.
-/
namespace Go.Proofs.YthghcainodgnkaaGreat
open Go.Ab
end Go.Proofs.YthghcainodgnkaaGreat

/-
  Watch: the reference's Lies.
-/
namespace Go.Proofs.YthghcainodgnkaaGreat
open Go.Ab
theorem trapB_less {b:WBook}(h:trapB b.trap=true)(l:List Int):trapB (trapOf b l)=true:=by
 have hl:(trapOf b l).words.length≤b.trap.words.length:=List.length_filter_le ..
 simp only[trapB,Bool.and_eq_true,decide_eq_true_eq,allB,List.all_eq_true]at h⊢
 refine⟨h.1,h.2.1,h.2.2.1,by omega,h.2.2.2.2.1,fun w hw=>h.2.2.2.2.2 w (List.mem_filter.1 hw).1⟩
theorem story_one {b:WBook} {l:List Int}(h:l∈storiesL b):isOneB (trapOf b l)=true:=by
 have:=(List.mem_filter.1 h).2
 simp only[storyB,Bool.and_eq_true]at this
 exact this.2
theorem judge_story {b:WBook}(hB:bookB b=true) {l:List Int}(hl:l∈storiesL b) {w:CWord}(hw:w∈b.trap.words):judgeC (trapOf b l) w=(judgeW b l w,0):=by
 have ht:=bookB_trap hB
 have hw2:wordOk (trapOf b l) w=true:=(trapB_ok ht).word w hw
 have ho:openT (trapOf b l) (wordOk (trapOf b l) w)=0:=by rw[openT_of (trapB_less ht l),hw2,story_one hl];rfl
 unfold judgeC judgeW
 rw[if_pos ho]
def liesV11(b:WBook)(n:Int):Int×Int:=if open11 b (wiB n 0 ((b.trap.words.length:Int)-1))=0 then(liesV b (wordAt b n),0)else(0,open11 b (wiB n 0 ((b.trap.words.length:Int)-1)))
end Go.Proofs.YthghcainodgnkaaGreat

/-
  Watch: the reference's Fish.
-/
namespace Go.Proofs.YthghcainodgnkaaGreat
open Go.Ab
theorem trapOf_open {b:WBook}(hB:bookB b=true)(l:List Int): ∀x,x∈(trapOf b l).opn→x.length<4611686018427387904:=fun x hx=>trapB_open (bookB_trap hB) x hx
def fishV11(b:WBook)(i c:Int):CSp×Int:=if open11 b (placeB b.trap i c)=0 then(spanW b i.toNat c.toNat i.toNat (c.toNat+1),0)else(⟨0,0⟩,open11 b (placeB b.trap i c))
end Go.Proofs.YthghcainodgnkaaGreat

/-
  Watch: the reference's Came.
-/
namespace Go.Proofs.YthghcainodgnkaaGreat
open Go.Ab
theorem came_story {b:WBook}(hB:bookB b=true) {l:List Int}(hl:l∈storiesL b) {i j:Nat}(hij:i≤j)(hj:(j:Int)<b.trap.times):cameC (trapOf b l) i j=(difR (trapOf b l) j 0 i 0,0):=by
 have ht:=bookB_trap hB
 have hw:(wiB (i:Int) 0 j&&decide ((j:Int)<(trapOf b l).times))=true:=by
  simp only[Bool.and_eq_true,wiB_iff,decide_eq_true_eq]
  exact⟨by omega,hj⟩
 have ho:openT (trapOf b l) (wiB (i:Int) 0 j&&decide ((j:Int)<(trapOf b l).times))=0:=by rw[openT_of (trapB_less ht l),hw,story_one hl];rfl
 unfold cameC
 rw[if_pos ho]
 simp
def spanIs(b:WBook)(i j:Int):Bool:=wiB i 0 (b.trap.times-1)&&(wiB j 0 (b.trap.times-1)&&decide (i≤j))
def cameV11(b:WBook)(i j:Int):CSp×Int:=if open11 b (spanIs b i j)=0 then(spanW b j.toNat 0 i.toNat 0,0)else(⟨0,0⟩,open11 b (spanIs b i j))
end Go.Proofs.YthghcainodgnkaaGreat

/-
  Watch: the reference's WithoutAll.
-/
namespace Go.Proofs.YthghcainodgnkaaGreat
open Go.Ab
end Go.Proofs.YthghcainodgnkaaGreat

/-
  Watch: the reference's TimesOf, AreFalse.
-/
namespace Go.Proofs.YthghcainodgnkaaGreat
open Go.Ab
end Go.Proofs.YthghcainodgnkaaGreat

/-
  Watch: the reference's AreFalse.
-/
namespace Go.Proofs.YthghcainodgnkaaGreat
open Go.Ab
end Go.Proofs.YthghcainodgnkaaGreat

/-
  Watch: the reference's Blame (not built yet).
-/
namespace Go.Proofs.YthghcainodgnkaaGreat
open Go.Ab
def optQ {α ρ:Type}(q:α→ρ)(fin:ρ):Option α→ρ
 |some x=>q x
 |none=>fin
end Go.Proofs.YthghcainodgnkaaGreat

/-
  Watch: the reference's Blame, whole (not built yet).
-/
namespace Go.Proofs.YthghcainodgnkaaGreat
open Go.Ab
def findL {α β ρ:Type}(F:α→List β)(p:β→Bool)(q:β→ρ)(a:Unit)(m:α):Unit⊕ρ:=optQ (fun x=> .inr (q x)) (.inl a) ((F m).find? p)
theorem foldS_flat {α β ρ:Type}(F:α→List β)(p:β→Bool)(q:β→ρ)(fin:ρ): ∀l:List α,foldS (findL F p q) (fun _=>fin) l ()=optQ q fin ((l.flatMap F).find? p)
 |[]=>rfl
 |m::l=>by
   have ih:=foldS_flat F p q fin l
   rw[List.flatMap_cons,List.find?_append]
   simp only[foldS,findL]at ih⊢
   cases (F m).find? p with
   |some x=>rfl
   |none=>exact ih
end Go.Proofs.YthghcainodgnkaaGreat

/-
  Watch: the reference's Blame, False.
-/
namespace Go.Proofs.YthghcainodgnkaaGreat
open Go.Ab
end Go.Proofs.YthghcainodgnkaaGreat

/-
  Watch: guesses (not built yet).
-/
namespace Go.Proofs.YthghcainodgnkaaGreat
open Go.Ab
theorem e_gHas(g n:Nat)(hg:g<32)(hn:n<64)(lab s):den T 119 [.int .u64 (g:Nat),i64 n] lab s=some (.bool (g.testBit n),s):=by
 have h1:((g:Int)).fdiv (2^min n IntKind.u64.bits)=((g>>>n:Nat):Int):=by
  rw[show min n IntKind.u64.bits=n by have:IntKind.u64.bits=64:=rfl;omega,Nat.shiftRight_eq_div_pow]
  rw[Int.fdiv_eq_ediv_of_nonneg _ (by exact Int.le_of_lt (Int.pow_pos (by decide)))]
  push_cast
  rfl
 have h2: ¬(n:Int)<0:=by omega
 rw[den_fn t119 _ _ _ rfl]
 simp only[b119]
 simp (disch:=first|omega|assumption|decide +kernel|(simp;done)|(simp;omega)|fail) [h1,h2]
 have e:((g:Int)>>>n)=((g>>>n:Nat):Int):=rfl
 have hb:g>>>n≤g:=by rw[Nat.shiftRight_eq_div_pow];exact Nat.div_le_self ..
 have hbits:(2:Int)^IntKind.u64.bits=18446744073709551616:=by decide
 have ht:g.testBit n=decide ((g>>>n)%2=1):=by rw[Nat.testBit_eq_decide_div_mod_eq,Nat.shiftRight_eq_div_pow]
 rw[e,ht,hbits]
 generalize g>>>n=h at*
 have e3:max ((h:Int)%18446744073709551616) 0%2=((h%2:Nat):Int):=by omega
 rw[e3]
 rcases Nat.mod_two_eq_zero_or_one h with h0|h0<;>rw[h0]<;>decide
end Go.Proofs.YthghcainodgnkaaGreat

/-
  Watch: the program's Check (not built yet).
-/
namespace Go.Proofs.YthghcainodgnkaaGreat
open Go.Ab
theorem e_isTimeW(b:WBook)(hm:Mid b.trap)(i:Int)(lab s):den T 99 [.agg (vB b),i64 i] lab s=some (.bool (wiB i 0 (b.trap.times-1)),s):=by
 obtain⟨_,h1,h2⟩:=hm
 have w1:IntKind.i64.wrap (b.trap.times-1)=b.trap.times-1:=wi _ (by omega) (by omega)
 rw[den_fn t99 _ _ _ rfl]
 simp only[b99]
 simp (disch:=first|omega|assumption|decide +kernel|(simp;done)|(simp;omega)|fail) [w1]
set_option maxHeartbeats 1000000 in
theorem e_areTimes_l(t:CTrap)(hm:Mid t)(l:List Int)(hl:l.length<4611686018427387904)(s:Stk):
 Run T b90l0 [(1, .sl .no 1 (es cInt l)),(2, .ptr s.length 32 0),(7, .sl .no 1 (es cInt l)),(8,i64 l.length),(9,i64 0)] ([(32, .cell (vT t))]::s)=
  if rising l 0 (t.times-1)=true then some (.exit 0,[(1, .sl .no 1 (es cInt l)),(2, .ptr s.length 32 0),(7, .sl .no 1 (es cInt l)),(8,i64 l.length),(9,i64 l.length),(10, .bool false)],[(32, .cell (vT t))]::s)
  else some (.ret,[(4, .bool false)],[(32, .cell (vT t))]::s):=by
 obtain⟨_,m1,m2⟩:=hm
 have w1:IntKind.i64.wrap (t.times-1)=t.times-1:=wi _ (by omega) (by omega)
 refine(loop_all (List.range l.length) (risingAt l 0 (t.times-1)) (fun k=>[(1, .sl .no 1 (es cInt l)),(2, .ptr s.length 32 0),(7, .sl .no 1 (es cInt l)),(8,i64 l.length),(9,i64 k)]) (fun _=>[(32, .cell (vT t))]::s) (.ret,[(4, .bool false)],[(32, .cell (vT t))]::s) (.exit 0,[(1, .sl .no 1 (es cInt l)),(2, .ptr s.length 32 0),(7, .sl .no 1 (es cInt l)),(8,i64 l.length),(9,i64 ((List.range l.length).length:Nat)),(10, .bool false)],[(32, .cell (vT t))]::s) (by simp) (by simp) ?_ (by simp) _ _ (by simp) (by simp)).trans (by simp only[List.length_range];rfl)
 intro k hk
 simp only[List.length_range]at hk
 simp only[List.getElem_range]
 have hg:l.getD k 0=l[k]:=by simp[List.getD,hk]
 have hk2:(k:Int)<l.length:=by omega
 cases h0:wiB l[k] 0 (t.times-1)
 ·simp (disch:=first|omega|assumption|decide +kernel|(simp;done)|(simp;omega)|fail) [hk,hk2,h0,w1,risingAt]
 by_cases h1:k=0
 ·subst h1
  simp (disch:=first|omega|assumption|decide +kernel|(simp;done)|(simp;omega)|fail) [hk,hk2,h0,w1,risingAt,wi]
 have hk1:k-1<l.length:=by omega
 have h1p:0<k:=by omega
 have h1q:(1:Int)≤k:=by omega
 have hg1:l.getD (k-1) 0=l[k-1]:=by simp[List.getD,hk1]
 have hn:((k:Int)-1).toNat=k-1:=by omega
 have wk1:IntKind.i64.wrap ((k:Int)-1)=(k:Int)-1:=wi _ (by omega) (by omega)
 have wk2:IntKind.i64.wrap ((k:Int)+1)=(k:Int)+1:=wi _ (by omega) (by omega)
 have hlt:(k:Int)-1<l.length:=by omega
 by_cases h2:l[k-1]<l[k]
 ·have h3: ¬l[k]≤l[k-1]:=by omega
  simp (disch:=first|omega|assumption|decide +kernel|(simp;done)|(simp;omega)|fail) [hk,hk2,hk1,h0,w1,h1,h1p,h1q,h2,h3,hn,hlt,wk1,wk2,risingAt]
 ·have h3:l[k]≤l[k-1]:=by omega
  simp (disch:=first|omega|assumption|decide +kernel|(simp;done)|(simp;omega)|fail) [hk,hk2,hk1,h0,w1,h1,h1p,h1q,h2,h3,hn,hlt,wk1,wk2,risingAt]
theorem e_areTimes(t:CTrap)(hm:Mid t)(l:List Int)(hl:l.length<4611686018427387904)(lab s):den T 90 [.agg (vT t), .sl .no 1 (es cInt l)] lab s=some (.bool (rising l 0 (t.times-1)),s):=by
 have h:=e_areTimes_l t hm l hl s
 rw[den_fn t90 _ _ _ rfl]
 simp only[b90]
 cases hr:rising l 0 (t.times-1)
 ·rw[hr,if_neg (by simp)]at h
  simp (disch:=first|omega|assumption|decide +kernel|(simp;done)|(simp;omega)|fail) [h]
 ·rw[hr,if_pos rfl]at h
  simp (disch:=first|omega|assumption|decide +kernel|(simp;done)|(simp;omega)|fail) [h]
end Go.Proofs.YthghcainodgnkaaGreat

/-
  Watch: the program's Check.
-/
namespace Go.Proofs.YthghcainodgnkaaGreat
open Go.Ab
theorem e_CheckW(b:WBook)(hc:CopyB b)(lab s):den T 39 [.agg (vB b)] lab s=some (i64 (if bookB b=true then 0 else 110),s):=by
 have h:=fun lab s=>e_Check1C b.trap hc.trap.short lab s
 have h1:=hc.sober
 unfold bookB
 rw[den_fn t39 _ _ _ rfl]
 simp only[b39]
 cases c1:trapB b.trap
 ·simp (maxSteps:=1000000) (disch:=first|omega|assumption|decide +kernel|(simp;done)|(simp;omega)|fail) [h,c1]
 have hm:=trapB_mid c1
 have ha:=fun lab s=>e_areTimes b.trap hm b.sober (by omega) lab s
 cases c2:wiB b.drunk 0 5
 ·simp (maxSteps:=1000000) (disch:=first|omega|assumption|decide +kernel|(simp;done)|(simp;omega)|fail) [h,c1,c2]
 cases c3:wiB b.run 0 5
 ·simp (maxSteps:=1000000) (disch:=first|omega|assumption|decide +kernel|(simp;done)|(simp;omega)|fail) [h,c1,c2,c3]
 cases c4:rising b.sober 0 (b.trap.times-1)<;>simp (maxSteps:=1000000) (disch:=first|omega|assumption|decide +kernel|(simp;done)|(simp;omega)|fail) [h,c1,c2,c3,c4,ha]
end Go.Proofs.YthghcainodgnkaaGreat

/-
  Watch: guessOf (not built yet).
-/
namespace Go.Proofs.YthghcainodgnkaaGreat
open Go.Ab
theorem or_word: ∀a,a<32→ ∀n,n<5→IntKind.u64.wrap ((a%2^IntKind.u64.bits|||(IntKind.u64.wrap (2^min n IntKind.u64.bits)%2^IntKind.u64.bits).toNat:Nat):Int)=((a|||1<<<n:Nat):Int):=by decide +kernel
theorem or_lt: ∀a,a<32→ ∀n,n<5→a|||1<<<n<32:=by decide +kernel
def orBit(g:Nat)(n:Int):Nat:=g|||(1<<<n.toNat)
theorem e_guessOf_l(l:List Int)(hl:l.length<1000000)(hin: ∀n,n∈l→0≤n∧n<5)(s:Stk):
 Run T b93l0 [(2, .int .u64 0),(5, .sl .no 1 (es cInt l)),(6,i64 l.length),(7,i64 0)] ([]::s)=some (.exit 0,[(2, .int .u64 (((l).foldl (orBit) 0):Nat)),(5, .sl .no 1 (es cInt l)),(6,i64 l.length),(7,i64 ((l).length:Nat)),(8, .bool false)],[]::s):=by
 have key:=loop_fold (T:=T) (live:=[2,5,6,7]) (keep:=[]) (b:=d93l0) (l) (fun _ g=>g<32) (orBit) (fun k (a:Nat)=>[(2, .int .u64 (a:Nat)),(5, .sl .no 1 (es cInt l)),(6,i64 l.length),(7,i64 (k:Nat))]) (fun k (a:Nat)=>[]::s) (fun(a:Nat)=>(.exit 0,[(2, .int .u64 (a:Nat)),(5, .sl .no 1 (es cInt l)),(6,i64 l.length),(7,i64 ((l).length:Nat)),(8, .bool false)],[]::s)) (by simp) ?_ ?_ ?_ 0 (by simp) [(2, .int .u64 0),(5, .sl .no 1 (es cInt l)),(6,i64 l.length),(7,i64 0)] ([]::s) (by simp) (by simp)
 ·exact key
 ·intro k a hk hi
  have hk2:(k:Int)<l.length:=by omega
  have hb:=hin _ (List.getElem_mem hk)
  unfold orBit
  generalize hx:l[k]=x at*
  obtain⟨n,rfl⟩: ∃n:Nat,x=n:=⟨x.toNat,by omega⟩
  have hn: ¬(n:Int)<0:=by omega
  simp (maxSteps:=1000000) (disch:=first|omega|assumption|decide +kernel|(simp;done)|(simp;omega)|fail) [hk,hk2,hx,hn,or_word a hi n (by omega),wk k (by omega)]
 ·intro k a hk hi
  have hb:=hin _ (List.getElem_mem hk)
  exact or_lt a hi _ (by omega)
 ·intro a hi
  simp
theorem e_guessOf(l:List Int)(hl:l.length<1000000)(hin: ∀n,n∈l→0≤n∧n<5)(lab s):den T 93 [.sl .no 1 (es cInt l)] lab s=some (.int .u64 (maskL l:Nat),s):=by
 have h:=e_guessOf_l l hl hin s
 rw[show l.foldl orBit 0=maskL l from rfl]at h
 generalize maskL l=m at*
 rw[den_fn t93 _ _ _ rfl]
 simp only[b93]
 simp (disch:=first|omega|assumption|decide +kernel|(simp;done)|(simp;omega)|fail) [h]
end Go.Proofs.YthghcainodgnkaaGreat

/-
  Watch: guess.run.
-/
namespace Go.Proofs.YthghcainodgnkaaGreat
open Go.Ab
theorem shl_word: ∀g:Nat,g<32→IntKind.u64.wrap ((g%2^IntKind.u64.bits&&&(IntKind.u64.wrap ((g:Int)*2)%2^IntKind.u64.bits).toNat:Nat):Int)=((g&&&(g<<<1):Nat):Int):=by decide +kernel
def runD:Nat→Nat→Bool
 |0,g=>g==0
 |f+1,g=>g==0||runD f (g&&&(g<<<1))
theorem runD_all: ∀g,g<32→runD 5 g=true:=by decide +kernel
theorem and_shl_lt: ∀g,g<32→g&&&(g<<<1)<32:=by decide +kernel
theorem e_run_0(c:Nat)(s:Stk):Run T b151l0 [(0, .int .u64 0),(3,i64 (c:Nat))] ([]::s)=some (.exit 0,[(0, .int .u64 0),(3,i64 (c:Nat)),(5, .bool false)],[]::s):=by
 unfold b151l0
 rw[run_head (e':=[(0, .int .u64 0),(3,i64 (c:Nat))]) (s':=[]::s) _ _ _ _ _ (by simp) (by simp)]
 simp (maxSteps:=1000000) (disch:=first|omega|assumption|decide +kernel|(simp;done)|(simp;omega)|fail) []
theorem e_run_s(g:Nat)(hg:g<32)(h0:g≠0)(c:Nat)(hc:c<100)(s:Stk):
 Run T b151l0 [(0, .int .u64 (g:Nat)),(3,i64 (c:Nat))] ([]::s)=Run T b151l0 [(0, .int .u64 (g&&&(g<<<1):Nat)),(3,i64 ((c+1:Nat):Int))] ([]::s):=by
 have h1: ¬(g:Int)=0:=by omega
 conv=>lhs;unfold b151l0
 rw[run_head (e':=[(0, .int .u64 (g:Nat)),(3,i64 (c:Nat))]) (s':=[]::s) _ _ _ _ _ (by simp) (by simp)]
 have:Run T d151l0 [(0, .int .u64 (g:Nat)),(3,i64 (c:Nat))] ([]::s)=some (.normal,[(0, .int .u64 (g&&&(g<<<1):Nat)),(3,i64 ((c+1:Nat):Int))],[]::s):=by
  simp (maxSteps:=1000000) (disch:=first|omega|assumption|decide +kernel|(simp;done)|(simp;omega)|fail) [h1,h0,shl_word g hg,wk c (by omega)]
 rw[this,thenRun_normal]
 rfl
theorem e_run_l(s:Stk): ∀f g,g<32→runD f g=true→ ∀c:Nat,c+f<100→Run T b151l0 [(0, .int .u64 (g:Nat)),(3,i64 (c:Nat))] ([]::s)=some (.exit 0,[(0, .int .u64 0),(3,i64 ((c+runN (f+1) g:Nat):Int)),(5, .bool false)],[]::s)
 |0,g,_,h,c,_=>by
   have:g=0:=by simpa [runD]using h
   subst this
   exact e_run_0 c s
 |f+1,g,hg,h,c,hc=>by
   by_cases h0:g=0
   ·subst h0
    have:runN (f+2) 0=0:=by simp[runN]
    rw[this]
    exact e_run_0 c s
   ·have h2:runD f (g&&&(g<<<1))=true:=by
     simp only[runD,Bool.or_eq_true,beq_iff_eq]at h
     exact h.resolve_left h0
    rw[e_run_s g hg h0 c (by omega) s,e_run_l s f _ (and_shl_lt g hg) h2 (c+1) (by omega)]
    have:runN (f+1+1) g=runN (f+1) (g&&&(g<<<1))+1:=by conv=>lhs;unfold runN;rw[if_neg h0]
    rw[this,show c+1+runN (f+1) (g&&&g<<<1)=c+(runN (f+1) (g&&&g<<<1)+1)by omega]
theorem e_run(g:Nat)(hg:g<32)(lab s):den T 151 [.int .u64 (g:Nat)] lab s=some (i64 (runN 6 g:Nat),s):=by
 have h:=e_run_l s 5 g hg (runD_all g hg) 0 (by omega)
 rw[Nat.zero_add]at h
 generalize runN 6 g=r at*
 simp only[Int.natCast_zero]at h
 rw[den_fn t151 _ _ _ rfl]
 simp only[b151]
 simp (disch:=first|omega|assumption|decide +kernel|(simp;done)|(simp;omega)|fail) [h]
end Go.Proofs.YthghcainodgnkaaGreat

/-
  Watch: how many times a guess has; whether it can be (not built yet).
-/
namespace Go.Proofs.YthghcainodgnkaaGreat
open Go.Ab
set_option maxHeartbeats 1000000 in
theorem e_ones(g:Nat)(hg:g<32)(lab s):den T 150 [.int .u64 (g:Nat)] lab s=some (i64 ((bitsL g).length:Nat),s):=by
 have h1: ∀lab s,den T 162 [.int .u64 (g:Nat)] lab s=some (i64 ((bitsL g).length:Nat),s):=by
  intro lab s
  rw[den_fn t162 _ _ _ rfl]
  simp only[b162]
  simp (maxSteps:=1000000) (disch:=first|omega|assumption|decide +kernel|(simp;done)|(simp;omega)|fail) []
  revert g
  decide +kernel
 rw[den_fn t150 _ _ _ rfl]
 simp only[b150]
 simp (disch:=first|omega|assumption|decide +kernel|(simp;done)|(simp;omega)|fail) [h1]
end Go.Proofs.YthghcainodgnkaaGreat

/-
  Watch: canBe (not built yet).
-/
namespace Go.Proofs.YthghcainodgnkaaGreat
open Go.Ab
abbrev vK(b:WBook)(st:V):List V:=[i64 b.trap.chambers,i64 b.trap.times, .sl .no 1 (es cInts b.trap.opn), .sl .no 4 (es cWord b.trap.words),i64 b.drunk,i64 b.run, .sl .no 1 (es cInt b.sober),st]
theorem and_word: ∀g,g<32→ ∀m,m<32→IntKind.u64.wrap ((g%2^IntKind.u64.bits&&&m%2^IntKind.u64.bits:Nat):Int)=((g&&&m:Nat):Int):=by decide +kernel
theorem maskL_lt5 {l:List Int}(h:l∈allL 5):maskL l<32:=mask_lt 5 (by decide) l h
theorem allL5_in {l:List Int}(h:l∈allL 5):l.length<1000000∧ ∀n,n∈l→0≤n∧n<5:=by
 obtain⟨h1,h2⟩:=allL_mem.1 h
 have:=pair_lenL (lo:=0) h1 h2
 exact⟨by omega,h2⟩
set_option maxHeartbeats 1000000 in
theorem e_canBe(b:WBook)(st:V)(g:Nat)(hg:g<32)(hs5:b.sober∈allL 5)(d l:Nat)(s:Stk)(hd: ¬d=s.length)(h:sget s d l=some (.cell (vK b st)))(lab):
 den T 121 [.ptr d l 0, .int .u64 (g:Nat)] lab s=some (.bool (canG b g),s):=by
 have h1:=fun lab s=>e_ones g hg lab s
 have h2:=fun lab s=>e_run g hg lab s
 obtain⟨q1,q2⟩:=allL5_in hs5
 have h3:=fun lab s=>e_guessOf b.sober q1 q2 lab s
 have hm:=maskL_lt5 hs5
 have hw:=and_word g hg (maskL b.sober) hm
 unfold canG
 rw[den_fn t121 _ _ _ rfl]
 simp only[b121]
 generalize maskL b.sober=m at*
 generalize (bitsL g).length=o at*
 generalize runN 6 g=r at*
 by_cases c1:(o:Int)≤b.drunk
 ·by_cases c2:(r:Int)≤b.run
  ·have c3:(((g&&&m:Nat):Int)=0)=(g&&&m=0):=by simp only[eq_iff_iff];omega
   simp (maxSteps:=1000000) (disch:=first|omega|assumption|decide +kernel|(simp;done)|(simp;omega)|fail) [run_drawnK,orSlow_none,hd,h,h1,h2,h3,hw,c1,c2,c3]
  ·simp (maxSteps:=1000000) (disch:=first|omega|assumption|decide +kernel|(simp;done)|(simp;omega)|fail) [run_drawnK,orSlow_none,hd,h,h1,h2,c1,c2]
 ·simp (maxSteps:=1000000) (disch:=first|omega|assumption|decide +kernel|(simp;done)|(simp;omega)|fail) [run_drawnK,orSlow_none,hd,h,h1,c1]
end Go.Proofs.YthghcainodgnkaaGreat

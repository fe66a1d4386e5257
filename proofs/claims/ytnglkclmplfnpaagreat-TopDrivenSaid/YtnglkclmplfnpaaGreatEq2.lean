/-
  Watch: the program's differences: node, limit (not built yet).
-/
import Derived.Test.YtnglkclmplfnpaaGreatEq1
import Derived.Test.YtnglkclmplfnpaaGreatPtab
import Derived.Test.YtnglkclmplfnpaaGreatAb7
set_option linter.unusedSimpArgs false
set_option linter.unusedVariables false
namespace Go.Proofs.YtnglkclmplfnpaaGreat
open Go.Ab
def trapV(t:CTrap)(B:List Int):List V:=i64 t.chambers::i64 t.times:: .sl .no 1 (es cInts t.opn):: .sl .no 4 (es cWord t.words)::B.map i64
@[simp] theorem trapV_length(t B):(trapV t B).length=B.length+4:=by simp[trapV]
@[simp] theorem trapV_0(t B)(h:0<(trapV t B).length):(trapV t B)[0]=i64 t.chambers:=rfl
@[simp] theorem trapV_1(t B)(h:1<(trapV t B).length):(trapV t B)[1]=i64 t.times:=rfl
theorem trapV_get {t:CTrap} {B:List Int} {j:Nat}(h:j<B.length):(trapV t B)[4+j]? =some (i64 (B.getD j 0)):=by
 rw[show 4+j=j+1+1+1+1 by omega]
 simp[trapV,h,List.getD]
theorem trapV_set {t:CTrap} {B:List Int} {j:Nat} {x:Int}:(trapV t B).set (4+j) (i64 x)=trapV t (B.set j x):=by
 rw[show 4+j=j+1+1+1+1 by omega]
 simp[trapV,List.map_set]
@[simp] theorem trapV_map(r:Ren)(h:r.c .no= .no)(t B):V.mapAll r (trapV t B)=trapV t B:=by
 have: ∀l:List Int,V.mapAll r (l.map i64)=l.map i64:=fun l=>by
  induction l with
  |nil=>rfl
  |cons a l ih=>simp[V.mapAll,V.map,ih]
 simp[trapV,V.mapAll,V.map,h,this]
theorem e_node(t:CTrap)(B:List Int)(h:TrapOk t)(d l:Nat)(i c:Nat)(hi:i<t.T)(hc:c≤t.C)(s:Stk)(hd:d<s.length)(hs:sget s d l=some (.cell (trapV t B)))(lab):
 den T 43 [.ptr d l 0,i64 i,i64 c] lab s=some (i64 (nodeN t.C i c:Nat),s):=by
 have h1:=h.cc
 have h2:=h.tt
 have e1:t.C=t.chambers.toNat:=rfl
 have e2:t.T=t.times.toNat:=rfl
 have hd2: ¬d=s.length:=by omega
 have b1:i*t.C≤4*4:=Nat.mul_le_mul (by omega) (by omega)
 have b2:(i:Int)*t.chambers=((i*t.C:Nat):Int):=by rw[Int.natCast_mul];congr 1;omega
 have w1:IntKind.i64.wrap ((i:Int)*t.chambers)=(i:Int)*t.chambers:=wi _ (by omega) (by omega)
 have w2:IntKind.i64.wrap (1+(i:Int)*t.chambers)=1+(i:Int)*t.chambers:=wi _ (by omega) (by omega)
 have w3:IntKind.i64.wrap (1+(i:Int)*t.chambers+c)=1+(i:Int)*t.chambers+c:=wi _ (by omega) (by omega)
 unfold nodeN
 rw[den_fn t43 _ _ _ rfl]
 simp only[b43]
 by_cases e:c=t.C
 ·have e':(c:Int)=t.chambers:=by omega
  rw[if_pos e]
  simp (maxSteps:=1000000) (disch:=first|omega|assumption|decide +kernel|(simp;done)|(simp;omega)|fail) [hs,hd2,e']
 ·have e': ¬(c:Int)=t.chambers:=by omega
  have e3:((1+i*t.C+c:Nat):Int)=1+(i:Int)*t.chambers+c:=by rw[b2];omega
  rw[if_neg e,e3]
  simp (maxSteps:=1000000) (disch:=first|omega|assumption|decide +kernel|(simp;done)|(simp;omega)|fail) [hs,hd2,e',w1,w2,w3]
theorem put_twice: ∀(F:Ab.Loc) (l:Nat) (x y:Entry),Loc.put (Loc.put F l x) l y=Loc.put F l y
 |[],l,x,y=>by simp[Loc.put]
 |(k,z)::F,l,x,y=>by
   by_cases h:l=k
   ·subst h;simp[Loc.put]
   ·simp only[Loc.put,if_neg h,put_twice F l x y]
theorem put_self: ∀(F:Ab.Loc) (l:Nat) (x:Entry),Loc.get F l=some x→Loc.put F l x=F
 |[],l,x,h=>by simp[Loc.get]at h
 |(k,z)::F,l,x,h=>by
   by_cases e:l=k
   ·subst e;simp[Loc.get]at h;subst h;simp[Loc.put]
   ·simp only[Loc.get,if_neg e]at h
    simp only[Loc.put,if_neg e,put_self F l x h]
@[simp] theorem sput_twice: ∀(s:Stk) (d l:Nat) (x y:Entry),sput (sput s d l x) d l y=sput s d l y
 |[],_,_,_,_=>rfl
 |F::s,d,l,x,y=>by
   by_cases h:d=s.length
   ·simp[sput,h,put_twice]
   ·have:=sput_twice s d l x y
    simp[sput,h,this]
theorem sput_self: ∀(s:Stk) (d l:Nat) (x:Entry),sget s d l=some x→sput s d l x=s
 |[],_,_,_,h=>by simp[sget]at h
 |F::s,d,l,x,h=>by
   by_cases e:d=s.length
   ·simp only[sget,if_pos e]at h
    simp only[sput,if_pos e,put_self F l x h]
   ·simp only[sget,if_neg e]at h
    simp only[sput,if_neg e,sput_self s d l x h]
theorem cellK_trap {t:CTrap} {B:List Int}(h:B.length=441) {i k:Nat}(hi:i<21)(hk:k<21)(S:Stk):cellK none (4+i*21+k) S (some (.cell (trapV t B)))=some (i64 (gB B i k),S):=by
 have e:=trapV_get (t:=t) (B:=B) (j:=21*i+k) (by omega)
 rw[show 4+i*21+k=4+(21*i+k)by omega,cellK_cell,part_one,e];rfl
theorem fitK_trap {t:CTrap} {B:List Int}(h:B.length=441) {i k:Nat}(hi:i<21)(hk:k<21)(S:Stk)(d l:Nat)(x:Int):fitK 1 (4+i*21+k) S d l [i64 x] (trapV t B)=some (.undef,sput S d l (.cell (trapV t (B.set (21*i+k) x)))):=by
 have e:=trapV_set (t:=t) (B:=B) (j:=21*i+k) (x:=x)
 rw[show 4+i*21+k=4+(21*i+k)by omega,fitK_eq,if_pos ⟨rfl,by simp;omega,rfl⟩]
 have:setAll (trapV t B) (4+(21*i+k)) [i64 x]=(trapV t B).set (4+(21*i+k)) (i64 x):=by simp[setAll]
 rw[this,e]
theorem LimI.mag {f t m B i k A}(h:LimI f t m B 10000000000000000 i k A)(hB:MagB B 10000000000000000)(hm: -40≤m): ∀j l,j<21→l<21→ -60000000000000200≤gB A j l∧gB A j l≤1048576:=fun j l hj hl=>by
 have h1:=h.low hB.lo (by decide) hm j l hj hl
 have h2:=h.le j l hj hl
 have h3:=hB.hi j l hj hl
 refine⟨Int.le_trans ?_ h1,by omega⟩
 split<;>split<;>omega
set_option maxHeartbeats 1000000 in
theorem e_limit_l1(t:CTrap)(f g:Nat)(hf:f<21)(hg:g<21)(m:Int)(hm: -40≤m∧m≤40)(d l:Nat)(i:Nat)(hi0:i<21)(B0 B:List Int)(hM:MagB B0 10000000000000000)(hB0:LimI f g m B0 10000000000000000 i 0 B)(s:Stk)(hd: ¬d=s.length)(hd2:d<s.length):
 Run T b79l1 [(0, .ptr d l 4),(1,i64 f),(2,i64 g),(3,i64 m),(8,i64 i),(19,i64 i),(22,i64 0)] ([]::sput s d l (.cell (trapV t B)))=some (.exit 2,[(0, .ptr d l 4),(1,i64 f),(2,i64 g),(3,i64 m),(8,i64 i),(19,i64 i),(22,i64 ((List.range 21).length:Nat)),(23, .bool false)],[]::sput s d l (.cell (trapV t ((List.range 21).foldl (limS f g m i) B)))):=by
 have key:=loop_fold (T:=T) (live:=[0,1,2,3,8,19,22]) (keep:=[]) (b:=d79l1) (List.range 21) (fun k A=>LimI f g m B0 10000000000000000 i k A) (limS f g m i) (fun k (a:List Int)=>[(0, .ptr d l 4),(1,i64 f),(2,i64 g),(3,i64 m),(8,i64 i),(19,i64 i),(22,i64 (k:Nat))]) (fun k (a:List Int)=>[]::sput s d l (.cell (trapV t a))) (fun(a:List Int)=>(.exit 2,[(0, .ptr d l 4),(1,i64 f),(2,i64 g),(3,i64 m),(8,i64 i),(19,i64 i),(22,i64 ((List.range 21).length:Nat)),(23, .bool false)],[]::sput s d l (.cell (trapV t a)))) (by simp) ?_ ?_ ?_ B (hB0) [(0, .ptr d l 4),(1,i64 f),(2,i64 g),(3,i64 m),(8,i64 i),(19,i64 i),(22,i64 0)] ([]::sput s d l (.cell (trapV t B))) (by simp[hd]) (by simp[hd])
 ·exact key
 ·intro k a hk hi
  try simp only[List.length_range]at hk
  try simp only[List.getElem_range]
  have hmag:=hi.mag hM hm.1
  have b1:=hmag i k hi0 hk
  have b2:=hmag i f hi0 hf
  have b3:=hmag g k hg hk
  have w1:IntKind.i64.wrap (gB a i f+m)=gB a i f+m:=wi _ (by omega) (by omega)
  have w2:IntKind.i64.wrap (gB a i f+m+gB a g k)=gB a i f+m+gB a g k:=wi _ (by omega) (by omega)
  have g1:=fun S=>cellK_trap (t:=t) hi.len hi0 hk S
  have g2:=fun S=>cellK_trap (t:=t) hi.len hi0 hf S
  have g3:=fun S=>cellK_trap (t:=t) hi.len hg hk S
  have g4:=fun S d l x=>fitK_trap (t:=t) hi.len hi0 hk S d l x
  have hk2:(k:Int)<21:=by omega
  have hi2:(i:Int)<21:=by omega
  have hf2:(f:Int)<21:=by omega
  have hg2:(g:Int)<21:=by omega
  have hs:=fun x=>sget_put_same s l x hd2
  unfold limS
  generalize gB a i f=y at*
  generalize gB a g k=z at*
  generalize gB a i k=x at*
  simp (maxSteps:=1000000) (disch:=first|omega|assumption|decide +kernel|(simp;done)|(simp;omega)|fail) [run_drawnK,-cellK_cell,-fitK_eq,hs,hd,g1,g2,g3,g4,w1,w2,hk2,hi2,hf2,hg2,wk k (by omega)]
 ·intro k a hk hi
  try simp only[List.length_range]at hk
  try simp only[List.getElem_range]
  exact hi.step hf hg hi0 hk
 ·intro a hi
  simp
end Go.Proofs.YtnglkclmplfnpaaGreat

/-
  Watch: limit, is, word, clash, between (not built yet).
-/
namespace Go.Proofs.YtnglkclmplfnpaaGreat
open Go.Ab
set_option maxHeartbeats 1000000 in
theorem e_limit_l0(t:CTrap)(f g:Nat)(hf:f<21)(hg:g<21)(m:Int)(hm: -40≤m∧m≤40)(d l:Nat)(B:List Int)(hM:MagB B 10000000000000000)(s:Stk)(hd: ¬d=s.length)(hd2:d<s.length):
 Run T b79l0 [(0, .ptr d l 4),(1,i64 f),(2,i64 g),(3,i64 m),(19,i64 0)] ([]::sput s d l (.cell (trapV t B)))=some (.exit 0,[(0, .ptr d l 4),(1,i64 f),(2,i64 g),(3,i64 m),(19,i64 ((List.range 21).length:Nat)),(20, .bool false)],[]::sput s d l (.cell (trapV t ((List.range 21).foldl (limRow f g m) B)))):=by
 have key:=loop_fold (T:=T) (live:=[0,1,2,3,19]) (keep:=[]) (b:=d79l0) (List.range 21) (fun k A=>LimI f g m B 10000000000000000 k 0 A) (limRow f g m) (fun k (a:List Int)=>[(0, .ptr d l 4),(1,i64 f),(2,i64 g),(3,i64 m),(19,i64 (k:Nat))]) (fun k (a:List Int)=>[]::sput s d l (.cell (trapV t a))) (fun(a:List Int)=>(.exit 0,[(0, .ptr d l 4),(1,i64 f),(2,i64 g),(3,i64 m),(19,i64 ((List.range 21).length:Nat)),(20, .bool false)],[]::sput s d l (.cell (trapV t a)))) (by simp) ?_ ?_ ?_ B (LimI.start hM.len) [(0, .ptr d l 4),(1,i64 f),(2,i64 g),(3,i64 m),(19,i64 0)] ([]::sput s d l (.cell (trapV t B))) (by simp[hd]) (by simp[hd])
 ·exact key
 ·intro k a hk hi
  try simp only[List.length_range]at hk
  try simp only[List.getElem_range]
  have h:=e_limit_l1 t f g hf hg m hm d l k hk B a hM hi s hd hd2
  rw[show(List.range 21).foldl (limS f g m k) a=limRow f g m a k from rfl]at h
  simp only[List.length_range]at h
  have hk2:(k:Int)<21:=by omega
  simp (maxSteps:=1000000) (disch:=first|omega|assumption|decide +kernel|(simp;done)|(simp;omega)|fail) [hd,hk2,h,wk k (by omega)]
 ·intro k a hk hi
  try simp only[List.length_range]at hk
  try simp only[List.getElem_range]
  exact(hi.row hf hg hk 21 (Nat.le_refl _)).next
 ·intro a hi
  simp
theorem e_limit(t:CTrap)(f g:Nat)(hf:f<21)(hg:g<21)(m:Int)(hm: -40≤m∧m≤40)(d l:Nat)(B:List Int)(hM:MagB B 10000000000000000)(s:Stk)(hd2:d<s.length)(hs:sget s d l=some (.cell (trapV t B)))(lab):
 den T 79 [.ptr d l 4,i64 f,i64 g,i64 m] lab s=some (.tup [],sput s d l (.cell (trapV t (limL f g m B)))):=by
 have hd: ¬d=s.length:=by omega
 have h:=e_limit_l0 t f g hf hg m hm d l B hM s hd hd2
 simp only[List.length_range]at h
 have g1:=fun S=>cellK_trap (t:=t) hM.len hf hg S
 have hf2:(f:Int)<21:=by omega
 have hg2:(g:Int)<21:=by omega
 have hself:=sput_self s d l _ hs
 rw[hself]at h
 rw[den_fn t79 _ _ _ rfl]
 simp only[b79]
 unfold limL
 generalize gB B f g=x at*
 by_cases hx:x≤m
 ·rw[if_pos hx]
  simp (maxSteps:=1000000) (disch:=first|omega|assumption|decide +kernel|(simp;done)|(simp;omega)|fail) [-cellK_cell,hs,hd,g1,hf2,hg2,hx,hself]
 ·rw[if_neg hx]
  have hx2:m<x:=by omega
  simp (maxSteps:=1000000) (disch:=first|omega|assumption|decide +kernel|(simp;done)|(simp;omega)|fail) [-cellK_cell,hs,hd,g1,hf2,hg2,hx,hx2,h]
theorem e_is(t:CTrap)(f g:Nat)(hf:f<21)(hg:g<21)(lo hi:Int)(hb:0≤lo∧lo≤hi∧hi≤40)(d l:Nat)(B:List Int)(hM:MagB B 10000000000000000)(hM2:MagB (limL f g hi B) 10000000000000000)(s:Stk)(hd2:d<s.length)(hs:sget s d l=some (.cell (trapV t B)))(lab):
 den T 104 [.ptr d l 4,i64 f,i64 g, .agg [i64 lo,i64 hi]] lab s=some (.tup [],sput s d l (.cell (trapV t (limL g f (-lo) (limL f g hi B))))):=by
 have hd: ¬d=s.length:=by omega
 have h1:=fun(F:Ab.Loc) lab=>e_limit t f g hf hg hi (by omega) d l B hM (F::s) (by simp;omega) (by rw[sget_cons,if_neg hd];exact hs) lab
 have h2:=fun(F:Ab.Loc) lab=>e_limit t g f hg hf (-lo) (by omega) d l (limL f g hi B) hM2 (F::sput s d l (.cell (trapV t (limL f g hi B)))) (by simp;omega) (by rw[sget_cons,sput_length,if_neg hd];exact sget_put_same s l _ hd2) lab
 have w:IntKind.i64.wrap (-lo)= -lo:=wi _ (by omega) (by omega)
 rw[den_fn t104 _ _ _ rfl]
 simp only[b104]
 generalize limL f g hi B=B1 at*
 generalize limL g f (-lo) B1=B2 at*
 simp[hd]at h1 h2
 simp (maxSteps:=1000000) (disch:=first|omega|assumption|decide +kernel|(simp;done)|(simp;omega)|fail) [hd,h1,h2,w]
theorem e_clash(t:CTrap)(d l:Nat)(B:List Int)(hB:B.length=441)(s:Stk)(hd2:d<s.length)(hs:sget s d l=some (.cell (trapV t B)))(lab):
 den T 66 [.ptr d l 4] lab s=some (.bool (clashB B),s):=by
 have hd: ¬d=s.length:=by omega
 have hl:Run T b66l0 [(0, .ptr d l 4),(4,i64 0)] ([]::s)=if anyB (fun i=>decide (gB B i i<0)) (List.range 21)=true then some (.ret,[(2, .bool true)],[]::s)else some (.exit 0,[(0, .ptr d l 4),(4,i64 21),(5, .bool false)],[]::s):=by
  refine(loop_any (List.range 21) (fun i=>decide (gB B i i<0)) (fun k=>[(0, .ptr d l 4),(4,i64 k)]) (fun _=>[]::s) (.ret,[(2, .bool true)],[]::s) (.exit 0,[(0, .ptr d l 4),(4,i64 ((List.range 21).length:Nat)),(5, .bool false)],[]::s) (by simp) (by simp) ?_ (by simp) _ _ (by simp[hd]) (by simp)).trans (by simp)
  intro k hk
  simp only[List.length_range]at hk
  simp only[List.getElem_range]
  have g1:=fun S=>cellK_trap (t:=t) hB hk hk S
  have hk2:(k:Int)<21:=by omega
  generalize gB B k k=x at*
  by_cases hx:x<0<;>simp (maxSteps:=1000000) (disch:=first|omega|assumption|decide +kernel|(simp;done)|(simp;omega)|fail) [-cellK_cell,hs,hd,g1,hk2,hx,wk k (by omega)]
 rw[den_fn t66 _ _ _ rfl]
 simp only[b66]
 have e:clashB B=anyB (fun i=>decide (gB B i i<0)) (List.range 21):=rfl
 rw[e]
 cases h:anyB (fun i=>decide (gB B i i<0)) (List.range 21)
 ·rw[h]at hl
  simp only[Bool.false_eq_true,if_false]at hl
  simp (maxSteps:=1000000) (disch:=first|omega|assumption|decide +kernel|(simp;done)|(simp;omega)|fail) [hl]
 ·rw[h]at hl
  simp only[if_true]at hl
  simp (maxSteps:=1000000) (disch:=first|omega|assumption|decide +kernel|(simp;done)|(simp;omega)|fail) [hl]
theorem e_betw(t:CTrap)(f g:Nat)(hf:f<21)(hg:g<21)(d l:Nat)(B:List Int)(hM:MagB B 10000000000000000)(s:Stk)(hd2:d<s.length)(hs:sget s d l=some (.cell (trapV t B)))(lab):
 den T 42 [.ptr d l 4,i64 f,i64 g] lab s=some (.agg [i64 (betwS B f g).lo,i64 (betwS B f g).hi],s):=by
 have hd: ¬d=s.length:=by omega
 have g1:=fun S=>cellK_trap (t:=t) hM.len hf hg S
 have g2:=fun S=>cellK_trap (t:=t) hM.len hg hf S
 have b1:=hM.lo g f hg hf
 have b2:=hM.hi g f hg hf
 have w:IntKind.i64.wrap (-gB B g f)= -gB B g f:=wi _ (by omega) (by omega)
 have hf2:(f:Int)<21:=by omega
 have hg2:(g:Int)<21:=by omega
 rw[den_fn t42 _ _ _ rfl]
 simp only[b42]
 unfold betwS
 generalize gB B f g=x at*
 generalize gB B g f=y at*
 simp (maxSteps:=1000000) (disch:=first|omega|assumption|decide +kernel|(simp;done)|(simp;omega)|fail) [run_drawnK,-cellK_cell,hs,hd,g1,g2,hf2,hg2,w]
end Go.Proofs.YtnglkclmplfnpaaGreat

/-
  Watch: a trap made ready (not built yet).
-/
namespace Go.Proofs.YtnglkclmplfnpaaGreat
open Go.Ab
@[simp] theorem trapV_d(d keep t B):V.mapAll (dropR d keep) (trapV t B)=trapV t B:=trapV_map _ rfl t B
@[simp] theorem trapV_f(d k z e t B):V.mapAll (frzR d k z e) (trapV t B)=trapV t B:=trapV_map _ rfl t B
@[simp] theorem trapV_r(own d loc ls d' lab t B):V.mapAll (renR own d loc ls d' lab) (trapV t B)=trapV t B:=trapV_map _ (by cases own<;>rfl) t B
@[simp] theorem trapV_refs(own:Bool)(d t B):V.refsAll own d (trapV t B)=[]:=by
 have: ∀l:List Int,V.refsAll own d (l.map i64)=[]:=fun l=>by
  induction l with
  |nil=>rfl
  |cons a l ih=>simp[V.refsAll,V.refs,ih]
 cases own<;>simp[trapV,V.refsAll,V.refs,Cap.refs,this]
@[simp] theorem trapV_strip(t B):V.stripAll (trapV t B)=trapV t B:=by
 have: ∀l:List Int,V.stripAll (l.map i64)=l.map i64:=fun l=>by
  induction l with
  |nil=>rfl
  |cons a l ih=>simp[V.stripAll,V.strip,ih]
 simp[trapV,V.stripAll,V.strip,this]
theorem e_word(t:CTrap)(h:TrapOk t)(d l:Nat)(B:List Int)(hM:MagB B 10000000000000000)(w:CWord)(hw:w∈t.words)(hM2:MagB (limL (nodeN t.C w.time.toNat (w.chamber.toNat+1)) (nodeN t.C w.time.toNat w.chamber.toNat) w.hi B) 10000000000000000)(s:Stk)(hd2:d<s.length)(hs:sget s d l=some (.cell (trapV t B)))(lab):
 den T 80 [.ptr d l 0, .agg [i64 w.time,i64 w.chamber,i64 w.lo,i64 w.hi]] lab s=some (.tup [],sput s d l (.cell (trapV t ((limsW t.C w).foldl limF B)))):=by
 have hd: ¬d=s.length:=by omega
 have hb:=wordOk_iff.1 (h.word w hw)
 obtain⟨k1,k2⟩:=word_in h hw
 have et:((w.time.toNat:Nat):Int)=w.time:=by omega
 have ec:((w.chamber.toNat:Nat):Int)=w.chamber:=by omega
 have ec2:((w.chamber.toNat+1:Nat):Int)=w.chamber+1:=by omega
 have n1:=fun(F:Ab.Loc) lab=>e_node t B h d l w.time.toNat w.chamber.toNat k1 (Nat.le_of_lt k2) (F::s) (by simp;omega) (by rw[sget_cons,if_neg hd];exact hs) lab
 have n2:=fun(F:Ab.Loc) lab=>e_node t B h d l w.time.toNat (w.chamber.toNat+1) k1 (show w.chamber.toNat+1≤t.C from k2) (F::s) (by simp;omega) (by rw[sget_cons,if_neg hd];exact hs) lab
 rw[et,ec]at n1
 rw[et,ec2]at n2
 have hi:=fun(F:Ab.Loc) lab=>e_is t (nodeN t.C w.time.toNat (w.chamber.toNat+1)) (nodeN t.C w.time.toNat w.chamber.toNat) (node_lt h k1 k2) (node_lt h k1 (Nat.le_of_lt k2)) w.lo w.hi (by omega) d l B hM hM2 (F::s) (by simp;omega) (by rw[sget_cons,if_neg hd];exact hs) lab
 have w1:IntKind.i64.wrap (w.chamber+1)=w.chamber+1:=wi _ (by have:=h.cc;omega) (by have:=h.cc;omega)
 have ef:(limsW t.C w).foldl limF B=limL (nodeN t.C w.time.toNat w.chamber.toNat) (nodeN t.C w.time.toNat (w.chamber.toNat+1)) (-w.lo) (limL (nodeN t.C w.time.toNat (w.chamber.toNat+1)) (nodeN t.C w.time.toNat w.chamber.toNat) w.hi B):=rfl
 rw[ef]
 generalize limL (nodeN t.C w.time.toNat w.chamber.toNat) (nodeN t.C w.time.toNat (w.chamber.toNat+1)) (-w.lo) (limL (nodeN t.C w.time.toNat (w.chamber.toNat+1)) (nodeN t.C w.time.toNat w.chamber.toNat) w.hi B)=B2 at*
 generalize nodeN t.C w.time.toNat w.chamber.toNat=y at*
 generalize nodeN t.C w.time.toNat (w.chamber.toNat+1)=z at*
 obtain⟨t0,t1,t2,t3⟩:=w
 dsimp only at*
 simp[hd]at hi
 rw[den_fn t80 _ _ _ rfl]
 simp only[b80]
 simp (maxSteps:=1000000) (disch:=first|omega|assumption|decide +kernel|(simp;done)|(simp;omega)|fail) [run_drawnK,hd,n1,n2,hi,w1]
def fillS(i:Nat)(B:List Int)(k:Nat):List Int:=if i≠k then B.set (21*i+k) 1048576 else B
def fillRow(B:List Int)(i:Nat):List Int:=(List.range 21).foldl (fillS i) B
theorem fill_len(i:Nat): ∀(l:List Nat) (B:List Int),(l.foldl (fillS i) B).length=B.length
 |[],_=>rfl
 |k::l,B=>by rw[List.foldl_cons,fill_len i l];unfold fillS;split<;>simp
def zeroB:List Int:=List.replicate 441 0
@[simp] theorem zeroB_length:zeroB.length=441:=List.length_replicate
theorem fill_all:(List.range 21).foldl fillRow zeroB=b0L:=by decide +kernel
theorem e_set_l1(t:CTrap)(i:Nat)(hi0:i<21)(B:List Int)(hB:B.length=441)(s:Stk):
 Run T b65l1 [(1,i64 (-1)),(2, .ptr s.length 32 0),(5, .ptr s.length 256 0),(6,i64 i),(17,i64 i),(20,i64 0)] ([(32, .cell [i64 t.chambers,i64 t.times, .sl .no 1 (es cInts t.opn), .sl .no 4 (es cWord t.words)]),(256, .cell (trapV t B))]::s)=some (.exit 2,[(1,i64 (-1)),(2, .ptr s.length 32 0),(5, .ptr s.length 256 0),(6,i64 i),(17,i64 i),(20,i64 ((List.range 21).length:Nat)),(21, .bool false)],[(32, .cell [i64 t.chambers,i64 t.times, .sl .no 1 (es cInts t.opn), .sl .no 4 (es cWord t.words)]),(256, .cell (trapV t ((List.range 21).foldl (fillS i) B)))]::s):=by
 have key:=loop_fold (T:=T) (live:=[1,2,5,6,17,20]) (keep:=[32,208,256,720,736,928,1008,1024,1136,1200,1296,1424,1536,1792]) (b:=d65l1) (List.range 21) (fun _ A=>A.length=441) (fillS i) (fun k (a:List Int)=>[(1,i64 (-1)),(2, .ptr s.length 32 0),(5, .ptr s.length 256 0),(6,i64 i),(17,i64 i),(20,i64 (k:Nat))]) (fun k (a:List Int)=>[(32, .cell [i64 t.chambers,i64 t.times, .sl .no 1 (es cInts t.opn), .sl .no 4 (es cWord t.words)]),(256, .cell (trapV t a))]::s) (fun(a:List Int)=>(.exit 2,[(1,i64 (-1)),(2, .ptr s.length 32 0),(5, .ptr s.length 256 0),(6,i64 i),(17,i64 i),(20,i64 ((List.range 21).length:Nat)),(21, .bool false)],[(32, .cell [i64 t.chambers,i64 t.times, .sl .no 1 (es cInts t.opn), .sl .no 4 (es cWord t.words)]),(256, .cell (trapV t a))]::s)) (by simp) ?_ ?_ ?_ B (hB) [(1,i64 (-1)),(2, .ptr s.length 32 0),(5, .ptr s.length 256 0),(6,i64 i),(17,i64 i),(20,i64 0)] ([(32, .cell [i64 t.chambers,i64 t.times, .sl .no 1 (es cInts t.opn), .sl .no 4 (es cWord t.words)]),(256, .cell (trapV t B))]::s) (by simp) (by simp)
 ·exact key
 ·intro k a hk hi
  try simp only[List.length_range]at hk
  try simp only[List.getElem_range]
  have g4:=fun S d l x=>fitK_trap (t:=t) hi hi0 hk S d l x
  have hk2:(k:Int)<21:=by omega
  have hi2:(i:Int)<21:=by omega
  unfold fillS
  by_cases e:i=k
  ·subst e
   simp (maxSteps:=1000000) (disch:=first|omega|assumption|decide +kernel|(simp;done)|(simp;omega)|fail) [-fitK_eq,g4,hk2,wk i (by omega)]
  ·have e2: ¬(i:Int)=k:=by omega
   simp (maxSteps:=1000000) (disch:=first|omega|assumption|decide +kernel|(simp;done)|(simp;omega)|fail) [-fitK_eq,g4,hk2,hi2,e,e2,wk k (by omega)]
 ·intro k a hk hi
  try simp only[List.length_range]at hk
  try simp only[List.getElem_range]
  unfold fillS;split<;>simp[hi]
 ·intro a hi
  simp
theorem e_set_l0(t:CTrap)(s:Stk):
 Run T b65l0 [(1,i64 (-1)),(2, .ptr s.length 32 0),(5, .ptr s.length 256 0),(17,i64 0)] ([(32, .cell [i64 t.chambers,i64 t.times, .sl .no 1 (es cInts t.opn), .sl .no 4 (es cWord t.words)]),(256, .cell (trapV t zeroB))]::s)=some (.exit 0,[(1,i64 (-1)),(2, .ptr s.length 32 0),(5, .ptr s.length 256 0),(17,i64 ((List.range 21).length:Nat)),(18, .bool false)],[(32, .cell [i64 t.chambers,i64 t.times, .sl .no 1 (es cInts t.opn), .sl .no 4 (es cWord t.words)]),(256, .cell (trapV t ((List.range 21).foldl (fillRow) zeroB)))]::s):=by
 have key:=loop_fold (T:=T) (live:=[1,2,5,17]) (keep:=[32,208,256,720,736,928,1008,1024,1136,1200,1296,1424,1536,1792]) (b:=d65l0) (List.range 21) (fun _ A=>A.length=441) (fillRow) (fun k (a:List Int)=>[(1,i64 (-1)),(2, .ptr s.length 32 0),(5, .ptr s.length 256 0),(17,i64 (k:Nat))]) (fun k (a:List Int)=>[(32, .cell [i64 t.chambers,i64 t.times, .sl .no 1 (es cInts t.opn), .sl .no 4 (es cWord t.words)]),(256, .cell (trapV t a))]::s) (fun(a:List Int)=>(.exit 0,[(1,i64 (-1)),(2, .ptr s.length 32 0),(5, .ptr s.length 256 0),(17,i64 ((List.range 21).length:Nat)),(18, .bool false)],[(32, .cell [i64 t.chambers,i64 t.times, .sl .no 1 (es cInts t.opn), .sl .no 4 (es cWord t.words)]),(256, .cell (trapV t a))]::s)) (by simp) ?_ ?_ ?_ zeroB (by simp) [(1,i64 (-1)),(2, .ptr s.length 32 0),(5, .ptr s.length 256 0),(17,i64 0)] ([(32, .cell [i64 t.chambers,i64 t.times, .sl .no 1 (es cInts t.opn), .sl .no 4 (es cWord t.words)]),(256, .cell (trapV t zeroB))]::s) (by simp) (by simp)
 ·exact key
 ·intro k a hk hi
  try simp only[List.length_range]at hk
  try simp only[List.getElem_range]
  have hk2:(k:Int)<21:=by omega
  have h:=e_set_l1 t k hk a hi s
  rw[show(List.range 21).foldl (fillS k) a=fillRow a k from rfl]at h
  simp only[List.length_range]at h
  simp (maxSteps:=1000000) (disch:=first|omega|assumption|decide +kernel|(simp;done)|(simp;omega)|fail) [hk2,h,wk k (by omega)]
 ·intro k a hk hi
  try simp only[List.length_range]at hk
  try simp only[List.getElem_range]
  unfold fillRow;rw[fill_len];exact hi
 ·intro a hi
  simp
end Go.Proofs.YtnglkclmplfnpaaGreat

/-
  Watch: a trap made ready: doors, words (not built yet).
-/
namespace Go.Proofs.YtnglkclmplfnpaaGreat
open Go.Ab
theorem doorB_has(t:CTrap) {i:Nat}(hi:i<t.opn.length)(c:Nat):doorB t i c=has t.opn[i] c:=by simp[doorB,anyB,List.getD,hi]
theorem e_nodeI(t:CTrap)(B:List Int)(h:TrapOk t)(d l:Nat)(i c:Nat)(hi:i<t.T)(hc:c≤t.C)(iv cv:Int)(h1:iv=(i:Int))(h2:cv=(c:Int))(s:Stk)(hd:d<s.length)(hs:sget s d l=some (.cell (trapV t B)))(lab):
 den T 43 [.ptr d l 0,i64 iv,i64 cv] lab s=some (i64 (nodeN t.C i c:Nat),s):=by subst h1;subst h2;exact e_node t B h d l i c hi hc s hd hs lab
set_option maxHeartbeats 4000000 in
theorem e_set_l3(t:CTrap)(h:TrapOk t)(hop: ∀l,l∈t.opn→l.length<4611686018427387904)(i:Nat)(hi0:i<t.T)(B:List Int)(hB:DoorB B)(s:Stk):
 Run T b65l3 [(1,i64 (-1)),(2, .ptr s.length 32 0),(5, .ptr s.length 256 0),(8,i64 i),(36,i64 t.times),(37,i64 i),(48,i64 t.chambers),(49,i64 0)] ([(32, .cell [i64 t.chambers,i64 t.times, .sl .no 1 (es cInts t.opn), .sl .no 4 (es cWord t.words)]),(256, .cell (trapV t B))]::s)=some (.exit 6,[(1,i64 (-1)),(2, .ptr s.length 32 0),(5, .ptr s.length 256 0),(8,i64 i),(36,i64 t.times),(37,i64 i),(48,i64 t.chambers),(49,i64 ((List.range t.C).length:Nat)),(50, .bool false)],[(32, .cell [i64 t.chambers,i64 t.times, .sl .no 1 (es cInts t.opn), .sl .no 4 (es cWord t.words)]),(256, .cell (trapV t ((List.range t.C).foldl (fun A c=>(limsC t i c).foldl limF A) B)))]::s):=by
 have key:=loop_fold (T:=T) (live:=[1,2,5,8,36,37,48,49]) (keep:=[32,208,256,720,736,1792]) (b:=d65l3) (List.range t.C) (fun _ A=>DoorB A) (fun A c=>(limsC t i c).foldl limF A) (fun k (a:List Int)=>[(1,i64 (-1)),(2, .ptr s.length 32 0),(5, .ptr s.length 256 0),(8,i64 i),(36,i64 t.times),(37,i64 i),(48,i64 t.chambers),(49,i64 (k:Nat))]) (fun k (a:List Int)=>[(32, .cell [i64 t.chambers,i64 t.times, .sl .no 1 (es cInts t.opn), .sl .no 4 (es cWord t.words)]),(256, .cell (trapV t a))]::s) (fun(a:List Int)=>(.exit 6,[(1,i64 (-1)),(2, .ptr s.length 32 0),(5, .ptr s.length 256 0),(8,i64 i),(36,i64 t.times),(37,i64 i),(48,i64 t.chambers),(49,i64 ((List.range t.C).length:Nat)),(50, .bool false)],[(32, .cell [i64 t.chambers,i64 t.times, .sl .no 1 (es cInts t.opn), .sl .no 4 (es cWord t.words)]),(256, .cell (trapV t a))]::s)) (by simp) ?_ ?_ ?_ B (hB) [(1,i64 (-1)),(2, .ptr s.length 32 0),(5, .ptr s.length 256 0),(8,i64 i),(36,i64 t.times),(37,i64 i),(48,i64 t.chambers),(49,i64 0)] ([(32, .cell [i64 t.chambers,i64 t.times, .sl .no 1 (es cInts t.opn), .sl .no 4 (es cWord t.words)]),(256, .cell (trapV t B))]::s) (by simp) (by simp)
 ·exact key
 ·intro k a hk hi
  try simp only[List.length_range]at hk
  try simp only[List.getElem_range]
  have hc:=h.cc
  have ht:=h.tt
  have e1:t.C=t.chambers.toNat:=rfl
  have e2:t.T=t.times.toNat:=rfl
  have hk2:(k:Int)<t.chambers:=by omega
  have n1:=fun B (F:Ab.Loc) (hF:Loc.get F 256=some (.cell (trapV t B))) lab=>e_nodeI t B h s.length 256 i k hi0 (Nat.le_of_lt hk) i k rfl rfl (F::s) (by simp) (by simp[hF]) lab
  have n2:=fun B (F:Ab.Loc) (hF:Loc.get F 256=some (.cell (trapV t B))) lab=>e_nodeI t B h s.length 256 i (k+1) hi0 (show k+1≤t.C from hk) i ((k:Int)+1) rfl rfl (F::s) (by simp) (by simp[hF]) lab
  have b1:=node_lt h hi0 (Nat.le_of_lt hk)
  have b2:=node_lt h hi0 (show k+1≤t.C from hk)
  have hL:=fun B (hB:DoorB B) x y hx hy (F:Ab.Loc) (hF:Loc.get F 256=some (.cell (trapV t B))) lab=>e_limit t x y hx hy 0 (by omega) s.length 256 B (hB.mag.weaken (magN_small (by omega))) (F::s) (by simp) (by simp[hF]) lab
  have l1:=hL a hi _ _ b1 b2
  have d1:DoorB (limL (nodeN t.C i k) (nodeN t.C i (k+1)) 0 a):=hi.lim (l:=⟨nodeN t.C i k,nodeN t.C i (k+1),0⟩) ⟨b1,b2,Int.le_refl _⟩
  have w1:IntKind.i64.wrap ((k:Int)+1)=(k:Int)+1:=wi _ (by omega) (by omega)
  by_cases hz:i=0
  ·subst hz
   simp only[show((0:Nat):Int)=0 from rfl]at n1 n2
   have ef:(limsC t 0 k).foldl limF a=limL (nodeN t.C 0 k) (nodeN t.C 0 (k+1)) 0 a:=rfl
   rw[ef]
   have n1a:=n1 a
   have n2a:=n2 a
   clear n1 n2
   generalize nodeN t.C 0 k=x at*
   generalize nodeN t.C 0 (k+1)=y at*
   generalize limL x y 0 a=B1 at*
   simp (maxSteps:=1000000) (disch:=first|omega|assumption|decide +kernel|(simp;done)|(simp;omega)|fail) [run_drawnK,hk2,n1a,n2a,l1,w1,wk k (by omega)]
  ·obtain⟨j,rfl⟩: ∃j,i=j+1:=⟨i-1,by omega⟩
   simp only[show((j+1:Nat):Int)=(j:Int)+1 from rfl]at n1 n2
   have n3:=fun B (F:Ab.Loc) (hF:Loc.get F 256=some (.cell (trapV t B))) lab=>e_nodeI t B h s.length 256 j k (by omega) (Nat.le_of_lt hk) j k rfl rfl (F::s) (by simp) (by simp[hF]) lab
   have b3:=node_lt h (show j<t.T by omega) (Nat.le_of_lt hk)
   have l2:=hL _ d1 _ _ b1 b3
   have d2:DoorB (limL (nodeN t.C (j+1) k) (nodeN t.C j k) 0 (limL (nodeN t.C (j+1) k) (nodeN t.C (j+1) (k+1)) 0 a)):=d1.lim (l:=⟨nodeN t.C (j+1) k,nodeN t.C j k,0⟩) ⟨b1,b3,Int.le_refl _⟩
   have l3:=hL _ d2 _ _ b3 b1
   have hjo:j<t.opn.length:=by have:=h.opn;omega
   have hj2:(j:Int)<t.opn.length:=by omega
   have hdo:=doorB_has t hjo k
   have hlen:=hop t.opn[j] (List.getElem_mem hjo)
   have w2:IntKind.i64.wrap (j:Int)=j:=wi _ (by omega) (by omega)
   have hj3: ¬(j:Int)+1=0:=by omega
   cases hd:doorB t j k
   ·have ef:(limsC t (j+1) k).foldl limF a=limL (nodeN t.C j k) (nodeN t.C (j+1) k) 0 (limL (nodeN t.C (j+1) k) (nodeN t.C j k) 0 (limL (nodeN t.C (j+1) k) (nodeN t.C (j+1) (k+1)) 0 a)):=by
     unfold limsC;rw[if_neg (by omega),Nat.add_sub_cancel,hd];rfl
    rw[ef]
    rw[hd]at hdo
    clear hL
    have n1a:=n1 a
    have n2a:=n2 a
    have n1b:=n1 (limL (nodeN t.C (j+1) k) (nodeN t.C (j+1) (k+1)) 0 a)
    have n3b:=n3 (limL (nodeN t.C (j+1) k) (nodeN t.C (j+1) (k+1)) 0 a)
    clear n1 n2 n3
    generalize nodeN t.C (j+1) k=x at*
    generalize nodeN t.C (j+1) (k+1)=y at*
    generalize nodeN t.C j k=z at*
    generalize limL z x 0 (limL x z 0 (limL x y 0 a))=B3 at*
    generalize limL x z 0 (limL x y 0 a)=B2 at*
    generalize limL x y 0 a=B1 at*
    simp (maxSteps:=1000000) (disch:=first|omega|assumption|decide +kernel|(simp;done)|(simp;omega)|fail) [run_drawnK,hk2,n1a,n2a,n1b,n3b,l1,l2,l3,w1,w2,hj2,hj3,hjo,hdo.symm,hlen,wk k (by omega)]
   ·have ef:(limsC t (j+1) k).foldl limF a=limL (nodeN t.C (j+1) k) (nodeN t.C j k) 0 (limL (nodeN t.C (j+1) k) (nodeN t.C (j+1) (k+1)) 0 a):=by
     unfold limsC;rw[if_neg (by omega),Nat.add_sub_cancel,hd];rfl
    rw[ef]
    rw[hd]at hdo
    clear hL
    have n1a:=n1 a
    have n2a:=n2 a
    have n1b:=n1 (limL (nodeN t.C (j+1) k) (nodeN t.C (j+1) (k+1)) 0 a)
    have n3b:=n3 (limL (nodeN t.C (j+1) k) (nodeN t.C (j+1) (k+1)) 0 a)
    clear n1 n2 n3
    generalize nodeN t.C (j+1) k=x at*
    generalize nodeN t.C (j+1) (k+1)=y at*
    generalize nodeN t.C j k=z at*
    clear l3 d2
    generalize limL x z 0 (limL x y 0 a)=B2 at*
    generalize limL x y 0 a=B1 at*
    simp (maxSteps:=1000000) (disch:=first|omega|assumption|decide +kernel|(simp;done)|(simp;omega)|fail) [run_drawnK,hk2,n1a,n2a,n1b,n3b,l1,l2,w1,w2,hj2,hj3,hjo,hdo.symm,hlen,wk k (by omega)]
 ·intro k a hk hi
  try simp only[List.length_range]at hk
  try simp only[List.getElem_range]
  exact hi.lims _ fun l hl=>by have:=limsC_lt h hi0 hk hl;omega
 ·intro a hi
  have hc:=h.cc
  have e1:t.C=t.chambers.toNat:=rfl
  have hk3:((t.C:Nat):Int)=t.chambers:=by omega
  simp only[List.length_range,hk3]
  simp
end Go.Proofs.YtnglkclmplfnpaaGreat

/-
  Watch: a trap made ready, whole (not built yet).
-/
namespace Go.Proofs.YtnglkclmplfnpaaGreat
open Go.Ab
theorem limsI_fold(t:CTrap)(i:Nat)(A:List Int):(limsI t i).foldl limF A=(List.range t.C).foldl (fun A c=>(limsC t i c).foldl limF A) (limL 0 (nodeN t.C i 0) 40 A):=by
 unfold limsI
 rw[List.foldl_cons,List.foldl_flatMap];rfl
theorem limsT_fold(t:CTrap):(limsT t).foldl limF b0L=(List.range t.T).foldl (fun A i=>(limsI t i).foldl limF A) b0L:=by
 unfold limsT
 rw[List.foldl_flatMap]
set_option maxHeartbeats 1000000 in
theorem e_set_l2(t:CTrap)(h:TrapOk t)(hop: ∀l,l∈t.opn→l.length<4611686018427387904)(s:Stk):
 Run T b65l2 [(1,i64 (-1)),(2, .ptr s.length 32 0),(5, .ptr s.length 256 0),(36,i64 t.times),(37,i64 0)] ([(32, .cell [i64 t.chambers,i64 t.times, .sl .no 1 (es cInts t.opn), .sl .no 4 (es cWord t.words)]),(256, .cell (trapV t b0L))]::s)=some (.exit 4,[(1,i64 (-1)),(2, .ptr s.length 32 0),(5, .ptr s.length 256 0),(36,i64 t.times),(37,i64 ((List.range t.T).length:Nat)),(38, .bool false)],[(32, .cell [i64 t.chambers,i64 t.times, .sl .no 1 (es cInts t.opn), .sl .no 4 (es cWord t.words)]),(256, .cell (trapV t ((List.range t.T).foldl (fun A i=>(limsI t i).foldl limF A) b0L)))]::s):=by
 have key:=loop_fold (T:=T) (live:=[1,2,5,36,37]) (keep:=[32,208,256,1792]) (b:=d65l2) (List.range t.T) (fun _ A=>DoorB A) (fun A i=>(limsI t i).foldl limF A) (fun k (a:List Int)=>[(1,i64 (-1)),(2, .ptr s.length 32 0),(5, .ptr s.length 256 0),(36,i64 t.times),(37,i64 (k:Nat))]) (fun k (a:List Int)=>[(32, .cell [i64 t.chambers,i64 t.times, .sl .no 1 (es cInts t.opn), .sl .no 4 (es cWord t.words)]),(256, .cell (trapV t a))]::s) (fun(a:List Int)=>(.exit 4,[(1,i64 (-1)),(2, .ptr s.length 32 0),(5, .ptr s.length 256 0),(36,i64 t.times),(37,i64 ((List.range t.T).length:Nat)),(38, .bool false)],[(32, .cell [i64 t.chambers,i64 t.times, .sl .no 1 (es cInts t.opn), .sl .no 4 (es cWord t.words)]),(256, .cell (trapV t a))]::s)) (by simp) ?_ ?_ ?_ b0L (.start) [(1,i64 (-1)),(2, .ptr s.length 32 0),(5, .ptr s.length 256 0),(36,i64 t.times),(37,i64 0)] ([(32, .cell [i64 t.chambers,i64 t.times, .sl .no 1 (es cInts t.opn), .sl .no 4 (es cWord t.words)]),(256, .cell (trapV t b0L))]::s) (by simp) (by simp)
 ·exact key
 ·intro k a hk hi
  try simp only[List.length_range]at hk
  try simp only[List.getElem_range]
  have hc:=h.cc
  have ht:=h.tt
  have e1:t.C=t.chambers.toNat:=rfl
  have e2:t.T=t.times.toNat:=rfl
  have hk2:(k:Int)<t.times:=by omega
  have b1:=node_lt h hk (Nat.zero_le t.C)
  have n1:=fun(F:Ab.Loc) (hF:Loc.get F 256=some (.cell (trapV t a))) lab=>e_nodeI t a h s.length 256 k 0 hk (Nat.zero_le _) k 0 rfl rfl (F::s) (by simp) (by simp[hF]) lab
  have l1:=fun(F:Ab.Loc) (hF:Loc.get F 256=some (.cell (trapV t a))) lab=>e_limit t 0 (nodeN t.C k 0) (by decide) b1 40 (by omega) s.length 256 a (hi.mag.weaken (magN_small (by omega))) (F::s) (by simp) (by simp[hF]) lab
  simp only[show((0:Nat):Int)=0 from rfl]at l1
  have d1:DoorB (limL 0 (nodeN t.C k 0) 40 a):=hi.lim (l:=⟨0,nodeN t.C k 0,40⟩) ⟨show 0<21 by decide,b1,by dsimp only;omega⟩
  have h3:=e_set_l3 t h hop k hk _ d1 s
  rw[limsI_fold]
  have eC:((t.C:Nat):Int)=t.chambers:=by omega
  simp only[List.length_range,eC]at h3
  generalize (List.range t.C).foldl (fun A c=>(limsC t k c).foldl limF A) (limL 0 (nodeN t.C k 0) 40 a)=B2 at*
  generalize limL 0 (nodeN t.C k 0) 40 a=B1 at*
  generalize nodeN t.C k 0=x at*
  simp (maxSteps:=1000000) (disch:=first|omega|assumption|decide +kernel|(simp;done)|(simp;omega)|fail) [run_drawnK,hk2,n1,l1,h3,wk k (by omega)]
 ·intro k a hk hi
  try simp only[List.length_range]at hk
  try simp only[List.getElem_range]
  refine hi.lims _ fun l hl=> ?_
  simp only[limsI,List.mem_cons,List.mem_flatMap,List.mem_range]at hl
  rcases hl with rfl|⟨c,hc,hl⟩
  ·exact⟨show 0<21 by decide,node_lt h hk (Nat.zero_le _),by dsimp only;omega⟩
  ·have:=limsC_lt h hk hc hl;omega
 ·intro a hi
  have ht:=h.tt
  have e2:t.T=t.times.toNat:=rfl
  have hk3:((t.T:Nat):Int)=t.times:=by omega
  simp only[List.length_range,hk3]
  simp
set_option maxHeartbeats 1000000 in
theorem e_set_l4(t:CTrap)(h:TrapOk t)(D:List Int)(hD:DoorB D)(s:Stk):
 Run T b65l4 [(1,i64 (-1)),(5, .ptr s.length 256 0),(100, .sl .no 4 (es cWord t.words)),(101,i64 t.words.length),(102,i64 0)] ([(32, .cell [i64 t.chambers,i64 t.times, .sl .no 1 (es cInts t.opn), .sl .no 4 (es cWord t.words)]),(256, .cell (trapV t D))]::s)=some (.exit 8,[(1,i64 (-1)),(5, .ptr s.length 256 0),(100, .sl .no 4 (es cWord t.words)),(101,i64 t.words.length),(102,i64 ((List.range t.words.length).length:Nat)),(103, .bool false)],[(32, .cell [i64 t.chambers,i64 t.times, .sl .no 1 (es cInts t.opn), .sl .no 4 (es cWord t.words)]),(256, .cell (trapV t ((List.range t.words.length).foldl (fun A k=>(limsW t.C (t.words.getD k default)).foldl limF A) D)))]::s):=by
 have key:=loop_fold (T:=T) (live:=[1,5,100,101,102]) (keep:=[32,256,720,736,928,1008,1024,1136,1200,1296,1424,1536]) (b:=d65l4) (List.range t.words.length) (fun k A=>A=((t.words.take k).flatMap (limsW t.C)).foldl limF D) (fun A k=>(limsW t.C (t.words.getD k default)).foldl limF A) (fun k (a:List Int)=>[(1,i64 (-1)),(5, .ptr s.length 256 0),(100, .sl .no 4 (es cWord t.words)),(101,i64 t.words.length),(102,i64 (k:Nat))]) (fun k (a:List Int)=>[(32, .cell [i64 t.chambers,i64 t.times, .sl .no 1 (es cInts t.opn), .sl .no 4 (es cWord t.words)]),(256, .cell (trapV t a))]::s) (fun(a:List Int)=>(.exit 8,[(1,i64 (-1)),(5, .ptr s.length 256 0),(100, .sl .no 4 (es cWord t.words)),(101,i64 t.words.length),(102,i64 ((List.range t.words.length).length:Nat)),(103, .bool false)],[(32, .cell [i64 t.chambers,i64 t.times, .sl .no 1 (es cInts t.opn), .sl .no 4 (es cWord t.words)]),(256, .cell (trapV t a))]::s)) (by simp) ?_ ?_ ?_ D (by simp) [(1,i64 (-1)),(5, .ptr s.length 256 0),(100, .sl .no 4 (es cWord t.words)),(101,i64 t.words.length),(102,i64 0)] ([(32, .cell [i64 t.chambers,i64 t.times, .sl .no 1 (es cInts t.opn), .sl .no 4 (es cWord t.words)]),(256, .cell (trapV t D))]::s) (by simp) (by simp)
 ·exact key
 ·intro k a hk hi
  try simp only[List.length_range]at hk
  try simp only[List.getElem_range]
  have hw8:=h.words
  have hk2:(k:Int)<t.words.length:=by omega
  have ew:t.words.getD k default=t.words[k]:=by simp[List.getD,hk]
  have hmem:t.words[k]∈t.words:=List.getElem_mem hk
  have hm:MagB a (magN (2*k)):=by
   have:=mag_some h hD (t.words.take k) fun w hw=>List.mem_of_mem_take hw
   rw[List.length_take,Nat.min_eq_left (by omega)]at this
   rw[hi];exact this
  have hm1:=hm.weaken (magN_small (by omega))
  obtain⟨k1,k2⟩:=word_in h hmem
  have hb:=wordOk_iff.1 (h.word _ hmem)
  have hm2:MagB (limL (nodeN t.C t.words[k].time.toNat (t.words[k].chamber.toNat+1)) (nodeN t.C t.words[k].time.toNat t.words[k].chamber.toNat) t.words[k].hi a) (magN (2*k+1)):=hm.limit (magN_nonneg _) (l:=⟨_,_,t.words[k].hi⟩) ⟨node_lt h k1 (show t.words[k].chamber.toNat+1≤t.C from k2),node_lt h k1 (Nat.le_of_lt k2),by dsimp only;omega⟩
  have hW:=fun(F:Ab.Loc) (hF:Loc.get F 256=some (.cell (trapV t a))) lab=>e_word t h s.length 256 a hm1 t.words[k] hmem (hm2.weaken (magN_small (by omega))) (F::s) (by simp) (by simp[hF]) lab
  have hk3: ¬(k:Int)= -1:=by omega
  rw[ew]
  generalize (limsW t.C t.words[k]).foldl limF a=B1 at*
  simp (maxSteps:=1000000) (disch:=first|omega|assumption|decide +kernel|(simp;done)|(simp;omega)|fail) [hk,hk2,hk3,hW,wk k (by omega)]
 ·intro k a hk hi
  try simp only[List.length_range]at hk
  try simp only[List.getElem_range]
  have hk':k<t.words.length:=hk
  have ew:t.words.getD k default=t.words[k]:=by simp[List.getD,hk']
  rw[ew,List.take_succ_eq_append_getElem hk',List.flatMap_append,List.foldl_append,←hi]
  simp
 ·intro a hi
  simp
end Go.Proofs.YtnglkclmplfnpaaGreat

/-
  Watch: counts.Check, open (not built yet).
-/
namespace Go.Proofs.YtnglkclmplfnpaaGreat
open Go.Ab
def trapB(t:CTrap):Bool:=wiB t.chambers 1 4&&(wiB t.times 1 5&&(decide ((t.opn.length:Int)=t.times-1)&&(decide (t.words.length≤8)&&(allB (fun l=>rising l 0 (t.chambers-1)) t.opn&&allB (fun w=>wordOk t w) t.words))))
theorem trapB_ok {t:CTrap}(h:trapB t=true):TrapOk t:=by
 simp only[trapB,Bool.and_eq_true,wiB_iff,decide_eq_true_eq,allB,List.all_eq_true]at h
 exact⟨h.1,h.2.1,h.2.2.2.2.2,by omega,h.2.2.1⟩
theorem trapB_rise {t:CTrap}(h:trapB t=true) {l:List Int}(hl:l∈t.opn):rising l 0 (t.chambers-1)=true:=by
 simp only[trapB,Bool.and_eq_true,allB,List.all_eq_true]at h
 exact h.2.2.2.2.1 l hl
theorem trapB_open {t:CTrap}(h:trapB t=true): ∀l,l∈t.opn→l.length<4611686018427387904:=fun l hl=>by
 obtain⟨h1,h2⟩:=rising_iff.1 (trapB_rise h hl)
 have hc:=(trapB_ok h).cc
 have:=pair_lenL (lo:=0) (n:=4) h1 fun x hx=>by have:=h2 x hx;omega
 omega
structure ShortT(t:CTrap):Prop where
 opn:t.opn.length<4611686018427387904
 words:t.words.length<4611686018427387904
 each: ∀l,l∈t.opn→l.length<4611686018427387904
abbrev vT(t:CTrap):List V:=[i64 t.chambers,i64 t.times, .sl .no 1 (es cInts t.opn), .sl .no 4 (es cWord t.words)]
def placeB(t:CTrap)(i c:Int):Bool:=wiB i 0 (t.times-1)&&wiB c 0 (t.chambers-1)
def Mid(t:CTrap):Prop:=(-9000000000000000000≤t.chambers∧t.chambers≤9000000000000000000)∧ -9000000000000000000≤t.times∧t.times≤9000000000000000000
theorem TrapOk.mid {t:CTrap}(h:1≤t.chambers∧t.chambers≤4)(h':1≤t.times∧t.times≤5):Mid t:=⟨by omega,by omega⟩
theorem e_isPlace(t:CTrap)(hm:Mid t)(i c:Int)(lab s):den T 44 [.agg (vT t),i64 i,i64 c] lab s=some (.bool (placeB t i c),s):=by
 obtain⟨h1,h2⟩:=hm
 have w1:IntKind.i64.wrap (t.chambers-1)=t.chambers-1:=wi _ (by omega) (by omega)
 have w2:IntKind.i64.wrap (t.times-1)=t.times-1:=wi _ (by omega) (by omega)
 rw[den_fn t44 _ _ _ rfl]
 simp only[b44]
 unfold placeB
 cases h:wiB i 0 (t.times-1)<;>simp (maxSteps:=1000000) (disch:=first|omega|assumption|decide +kernel|(simp;done)|(simp;omega)|fail) [h,w1,w2]
theorem wordOk_place(t:CTrap)(w:CWord):wordOk t w=(placeB t w.time w.chamber&&(wiB w.lo 0 w.hi&&decide (w.hi≤40))):=by
 rw[Bool.eq_iff_iff,wordOk_iff]
 simp only[placeB,Bool.and_eq_true,wiB_iff,decide_eq_true_eq]
 omega
theorem e_isWord(t:CTrap)(hm:Mid t)(w:CWord)(lab s):den T 62 [.agg (vT t), .agg [i64 w.time,i64 w.chamber,i64 w.lo,i64 w.hi]] lab s=some (.bool (wordOk t w),s):=by
 have hp:=fun lab s=>e_isPlace t hm w.time w.chamber lab s
 rw[wordOk_place]
 rw[den_fn t62 _ _ _ rfl]
 simp only[b62]
 cases h:placeB t w.time w.chamber
 ·simp (maxSteps:=1000000) (disch:=first|omega|assumption|decide +kernel|(simp;done)|(simp;omega)|fail) [hp,h]
 ·cases h2:wiB w.lo 0 w.hi<;>simp (maxSteps:=1000000) (disch:=first|omega|assumption|decide +kernel|(simp;done)|(simp;omega)|fail) [hp,h,h2]
end Go.Proofs.YtnglkclmplfnpaaGreat

/-
  Watch: counts.Check, the reference's Check (not built yet).
-/
namespace Go.Proofs.YtnglkclmplfnpaaGreat
open Go.Ab
theorem e_chk_l1(t:CTrap)(hm:Mid t)(l:List Int)(hl:l.length<4611686018427387904)(o:List (List Int))(n i:Int)(s:Stk):
 Run T b38l1 [(1, .ptr s.length 16 0),(4, .sl .no 1 (es cInt l)),(33, .sl .no 1 (es cInts o)),(34,i64 n),(35,i64 i),(39, .sl .no 1 (es cInt l)),(40,i64 l.length),(41,i64 0)] ([(16, .cell (vT t))]::s)=
  if rising l 0 (t.chambers-1)=true then some (.exit 2,[(1, .ptr s.length 16 0),(4, .sl .no 1 (es cInt l)),(33, .sl .no 1 (es cInts o)),(34,i64 n),(35,i64 i),(39, .sl .no 1 (es cInt l)),(40,i64 l.length),(41,i64 l.length),(42, .bool false)],[(16, .cell (vT t))]::s)
  else some (.ret,[(2,i64 10)],[(16, .cell (vT t))]::s):=by
 obtain⟨⟨m1,m2⟩,_⟩:=hm
 have w1:IntKind.i64.wrap (t.chambers-1)=t.chambers-1:=wi _ (by omega) (by omega)
 refine(loop_all (List.range l.length) (risingAt l 0 (t.chambers-1)) (fun k=>[(1, .ptr s.length 16 0),(4, .sl .no 1 (es cInt l)),(33, .sl .no 1 (es cInts o)),(34,i64 n),(35,i64 i),(39, .sl .no 1 (es cInt l)),(40,i64 l.length),(41,i64 k)]) (fun _=>[(16, .cell (vT t))]::s) (.ret,[(2,i64 10)],[(16, .cell (vT t))]::s) (.exit 2,[(1, .ptr s.length 16 0),(4, .sl .no 1 (es cInt l)),(33, .sl .no 1 (es cInts o)),(34,i64 n),(35,i64 i),(39, .sl .no 1 (es cInt l)),(40,i64 l.length),(41,i64 ((List.range l.length).length:Nat)),(42, .bool false)],[(16, .cell (vT t))]::s) (by simp) (by simp) ?_ (by simp) _ _ (by simp) (by simp)).trans (by simp only[List.length_range];rfl)
 intro k hk
 simp only[List.length_range]at hk
 simp only[List.getElem_range]
 have hg:l.getD k 0=l[k]:=by simp[List.getD,hk]
 have hk2:(k:Int)<l.length:=by omega
 cases h0:wiB l[k] 0 (t.chambers-1)
 ·simp (disch:=first|omega|assumption|decide +kernel|(simp;done)|(simp;omega)|fail) [hk,hk2,h0,w1,risingAt]
 by_cases h1:k=0
 ·subst h1
  simp (disch:=first|omega|assumption|decide +kernel|(simp;done)|(simp;omega)|fail) [hk,hk2,h0,w1,risingAt,wi]
 have hk1:k-1<l.length:=by omega
 have h1p:0<k:=by omega
 have h1q:(1:Int)≤k:=by omega
 have hg1:l.getD (k-1) 0=l[k-1]:=by simp[List.getD,hk1]
 have hn:((k:Int)-1).toNat=k-1:=by omega
 have wk1:IntKind.i64.wrap ((k:Int)-1)=(k:Int)-1:=wi _ (by omega) (by omega)
 have wk2:IntKind.i64.wrap ((k:Int)+1)=(k:Int)+1:=wi _ (by omega) (by omega)
 have hlt:(k:Int)-1<l.length:=by omega
 by_cases h2:l[k-1]<l[k]
 ·have h3: ¬l[k]≤l[k-1]:=by omega
  simp (disch:=first|omega|assumption|decide +kernel|(simp;done)|(simp;omega)|fail) [hk,hk2,hk1,h0,w1,h1,h1p,h1q,h2,h3,hn,hlt,wk1,wk2,risingAt]
 ·have h3:l[k]≤l[k-1]:=by omega
  simp (disch:=first|omega|assumption|decide +kernel|(simp;done)|(simp;omega)|fail) [hk,hk2,hk1,h0,w1,h1,h1p,h1q,h2,h3,hn,hlt,wk1,wk2,risingAt]
theorem e_chk_l0(t:CTrap)(hm:Mid t)(hs:ShortT t)(s:Stk):
 Run T b38l0 [(1, .ptr s.length 16 0),(33, .sl .no 1 (es cInts t.opn)),(34,i64 t.opn.length),(35,i64 0)] ([(16, .cell (vT t))]::s)=
  if allB (fun l=>rising l 0 (t.chambers-1)) t.opn=true then some (.exit 0,[(1, .ptr s.length 16 0),(33, .sl .no 1 (es cInts t.opn)),(34,i64 t.opn.length),(35,i64 t.opn.length),(36, .bool false)],[(16, .cell (vT t))]::s)
  else some (.ret,[(2,i64 10)],[(16, .cell (vT t))]::s):=by
 refine loop_all t.opn (fun l=>rising l 0 (t.chambers-1)) (fun k=>[(1, .ptr s.length 16 0),(33, .sl .no 1 (es cInts t.opn)),(34,i64 t.opn.length),(35,i64 k)]) (fun _=>[(16, .cell (vT t))]::s) _ _ (by simp) (by simp) ?_ (by simp) _ _ (by simp) (by simp)
 intro k hk
 have hlo:=hs.opn
 have hk2:(k:Int)<t.opn.length:=by omega
 have h:=e_chk_l1 t hm t.opn[k] (hs.each _ (List.getElem_mem hk)) t.opn t.opn.length k s
 cases hr:rising t.opn[k] 0 (t.chambers-1)
 ·rw[hr]at h
  simp only[Bool.false_eq_true,if_false]at h
  simp (maxSteps:=1000000) (disch:=first|omega|assumption|decide +kernel|(simp;done)|(simp;omega)|fail) [hk,hk2,h,hr,wk k (by omega)]
 ·rw[hr]at h
  simp only[if_true]at h
  simp (maxSteps:=1000000) (disch:=first|omega|assumption|decide +kernel|(simp;done)|(simp;omega)|fail) [hk,hk2,h,hr,wk k (by omega)]
theorem e_Check1(t:CTrap)(hm:Mid t)(w:CWord)(d l:Nat)(s:Stk)(h:sget s d l=some (.cell (vT t)))(hd: ¬d=s.length)(lab):
 den T 61 [.agg [i64 w.time,i64 w.chamber,i64 w.lo,i64 w.hi], .ptr d l 0] lab s=some (.bool (!wordOk t w),s):=by
 have hw:=fun lab s=>e_isWord t hm w lab s
 rw[den_fn t61 _ _ _ rfl]
 simp only[b61]
 cases k:wordOk t w<;>simp (maxSteps:=1000000) (disch:=first|omega|assumption|decide +kernel|(simp;done)|(simp;omega)|fail) [h,hd,hw,k]
theorem e_IndexW_l(t:CTrap)(hm:Mid t)(ws:List CWord)(d l:Nat)(s:Stk)(h:sget s d l=some (.cell (vT t)))(hd:d<s.length)(hl:ws.length<4611686018427387904):
 ∃g:Nat,Run T b77l0 [(0, .sl .no 4 (es cWord ws)),(1, .fn 61 [] [.ptr d l 0]),(7,i64 ws.length),(8,i64 0)] ([]::s)=
  if allB (fun w=>wordOk t w) ws=true then some (.exit 0,[(0, .sl .no 4 (es cWord ws)),(1, .fn 61 [] [.ptr d l 0]),(7,i64 ws.length),(8,i64 ws.length),(9, .bool false)],[]::s)else some (.ret,[(4,i64 (g:Nat))],[]::s):=by
 have hd2: ¬d=s.length:=by omega
 have hd3: ¬d=s.length+1:=by omega
 have hc: ∀(w:CWord) lab,den T 61 [.agg [i64 w.time,i64 w.chamber,i64 w.lo,i64 w.hi], .ptr d l 0] lab ([]::s)=some (.bool (!wordOk t w),[]::s):=fun w lab=>e_Check1 t hm w d l ([]::s) (by simp[hd2,h]) (by simp;omega) lab
 refine loop_all_g ws (fun w=>wordOk t w) (fun k=>[(0, .sl .no 4 (es cWord ws)),(1, .fn 61 [] [.ptr d l 0]),(7,i64 ws.length),(8,i64 k)]) (fun _=>[]::s) (fun g:Nat=>(.ret,[(4,i64 (g:Nat))],[]::s)) _ (by simp) (by simp[hd2]) ?_ (by simp) _ _ (by simp[hd2]) (by simp)
 intro k hk
 refine⟨k,?_⟩
 have hk2:(k:Int)<ws.length:=by omega
 have hc2:=fun lab=>hc ws[k] lab
 cases h2:wordOk t ws[k]
 ·simp (maxSteps:=1000000) (disch:=first|omega|assumption|decide +kernel|(simp;done)|(simp;omega)|fail) [hk,hk2,hc2,h2,hd2,hd3,wk k (by omega)]
 ·simp (maxSteps:=1000000) (disch:=first|omega|assumption|decide +kernel|(simp;done)|(simp;omega)|fail) [hk,hk2,hc2,h2,hd2,hd3,wk k (by omega)]
theorem e_ContainsW(t:CTrap)(hm:Mid t)(ws:List CWord)(d l:Nat)(s:Stk)(h:sget s d l=some (.cell (vT t)))(hd:d<s.length)(hl:ws.length<4611686018427387904)(lab):
 den T 60 [.sl .no 4 (es cWord ws), .fn 61 [] [.ptr d l 0]] lab s=some (.bool (!allB (fun w=>wordOk t w) ws),s):=by
 have hd2: ¬d=s.length:=by omega
 have hd3: ¬d=s.length+1:=by omega
 have hi: ∃r:Int,(∀lab,den T 77 [.sl .no 4 (es cWord ws), .fn 61 [] [.ptr d l 0]] lab ([]::s)=some (i64 r,[]::s))∧(0≤r↔allB (fun w=>wordOk t w) ws=false):=by
  obtain⟨g,hg⟩:=e_IndexW_l t hm ws d l ([]::s) (by simp[hd2,h]) (by simp;omega) hl
  refine⟨if allB (fun w=>wordOk t w) ws=true then -1 else g,?_,?_⟩
  rotate_left
  ·cases allB (fun w=>wordOk t w) ws<;>simp
  intro lab
  rw[den_fn t77 _ _ _ rfl]
  simp only[b77]
  cases h:allB (fun w=>wordOk t w) ws<;>simp (maxSteps:=1000000) (disch:=first|omega|assumption|decide +kernel|(simp;done)|(simp;omega)|fail) [hg,h,hd2,hd3]
 obtain⟨r,hr,hi⟩:=hi
 rw[den_fn t60 _ _ _ rfl]
 simp only[b60]
 by_cases h:0≤r
 ·simp (maxSteps:=1000000) (disch:=first|omega|assumption|decide +kernel|(simp;done)|(simp;omega)|fail) [hr,h,hi.1 h,hd2]
 ·have:allB (fun w=>wordOk t w) ws=true:=by cases hx:allB (fun w=>wordOk t w) ws;exact absurd (hi.2 hx) h;rfl
  simp (maxSteps:=1000000) (disch:=first|omega|assumption|decide +kernel|(simp;done)|(simp;omega)|fail) [hr,h,this,hd2]
set_option maxHeartbeats 1000000 in
theorem e_Check1C(t:CTrap)(hs:ShortT t)(lab s):den T 38 [.agg (vT t)] lab s=some (i64 (if trapB t=true then 0 else 10),s):=by
 have ho:=hs.opn
 have hw:=hs.words
 rw[den_fn t38 _ _ _ rfl]
 simp only[b38]
 unfold trapB
 cases c1:wiB t.chambers 1 4
 ·simp (maxSteps:=1000000) (disch:=first|omega|assumption|decide +kernel|(simp;done)|(simp;omega)|fail) [c1]
 cases c2:wiB t.times 1 5
 ·simp (maxSteps:=1000000) (disch:=first|omega|assumption|decide +kernel|(simp;done)|(simp;omega)|fail) [c1,c2]
 have hm:Mid t:=TrapOk.mid (wiB_iff.1 c1) (wiB_iff.1 c2)
 have w1:IntKind.i64.wrap (t.times-1)=t.times-1:=by have:=(wiB_iff.1 c2);exact wi _ (by omega) (by omega)
 by_cases c3:(t.opn.length:Int)=t.times-1
 rotate_left
 ·simp (maxSteps:=1000000) (disch:=first|omega|assumption|decide +kernel|(simp;done)|(simp;omega)|fail) [c1,c2,c3,w1]
 by_cases c4:t.words.length≤8
 rotate_left
 ·have c4':(8:Int)<t.words.length:=by omega
  simp (maxSteps:=1000000) (disch:=first|omega|assumption|decide +kernel|(simp;done)|(simp;omega)|fail) [c1,c2,c3,c4,c4',w1]
 have c4': ¬(8:Int)<t.words.length:=by omega
 have h0:=e_chk_l0 t hm hs s
 have hC:=fun(F:Ab.Loc) (hF:Loc.get F 16=some (.cell (vT t))) lab=>e_ContainsW t hm t.words s.length 16 (F::s) (by simp[hF]) (by simp) hw lab
 rw[c3]at h0
 cases c5:allB (fun l=>rising l 0 (t.chambers-1)) t.opn
 ·rw[c5]at h0
  simp only[Bool.false_eq_true,if_false]at h0
  simp (maxSteps:=1000000) (disch:=first|omega|assumption|decide +kernel|(simp;done)|(simp;omega)|fail) [c1,c2,c3,c4,c4',c5,w1,h0]
 ·rw[c5]at h0
  simp only[if_true]at h0
  cases c6:allB (fun w=>wordOk t w) t.words<;>simp (maxSteps:=1000000) (disch:=first|omega|assumption|decide +kernel|(simp;done)|(simp;omega)|fail) [c1,c2,c3,c4,c4',c5,c6,w1,h0,hC]
end Go.Proofs.YtnglkclmplfnpaaGreat

/-
  Watch: set, whole; open; Fish, Came, Judge (not built yet).
-/
namespace Go.Proofs.YtnglkclmplfnpaaGreat
open Go.Ab
theorem words_fold {α:Type} [Inhabited α](f:α→List Lim): ∀(l:List α) (D:List Int),(List.range l.length).foldl (fun A k=>(f (l.getD k default)).foldl limF A) D=(l.flatMap f).foldl limF D:=by
 intro l D
 have key: ∀m,m≤l.length→(List.range m).foldl (fun A k=>(f (l.getD k default)).foldl limF A) D=((l.take m).flatMap f).foldl limF D:=by
  intro m
  induction m with
  |zero=>intro _;simp
  |succ m ih=>
    intro hm
    have hm':m<l.length:=hm
    have e:l.getD m default=l[m]:=by simp[List.getD,hm']
    rw[rangeSucc_fold,ih (by omega),e,List.take_succ_eq_append_getElem hm',List.flatMap_append,List.foldl_append]
    simp
 have:=key l.length (Nat.le_refl _)
 rwa [List.take_length]at this
theorem setB_two(t:CTrap):setB t=(t.words.flatMap (limsW t.C)).foldl limF ((limsT t).foldl limF b0L):=by
 unfold setB lims;rw[List.foldl_append]
theorem limsT_door {t:CTrap}(h:TrapOk t):DoorB ((limsT t).foldl limF b0L):=DoorB.start.lims _ fun l hl=>by
 simp only[limsT,limsI,List.mem_flatMap,List.mem_range,List.mem_cons]at hl
 obtain⟨i,hi,rfl|⟨c,hc,hl⟩⟩:=hl
 ·exact⟨show 0<21 by decide,node_lt h hi (Nat.zero_le _),by dsimp only;omega⟩
 ·have:=limsC_lt h hi hc hl;omega
theorem setB_mag {t:CTrap}(h:TrapOk t):MagB (setB t) 10000000000000000:=by
 rw[setB_two]
 exact(mag_some h (limsT_door h) t.words fun _ h=>h).weaken (magN_small (by have:=h.words;omega))
theorem zeroV_trap(t:CTrap):(i64 t.chambers::i64 t.times:: .sl .no 1 (es cInts t.opn):: .sl .no 4 (es cWord t.words)::zeroV 441)=trapV t zeroB:=by
 simp only[trapV,zeroV,zeroB,List.map_replicate]
set_option maxHeartbeats 2000000 in
theorem e_set(t:CTrap)(h:TrapOk t)(hop: ∀l,l∈t.opn→l.length<4611686018427387904)(F:Ab.Loc)(s:Stk)(lab:Nat)(hF:Loc.get F lab=none):
 den T 65 [.agg (vT t),i64 (-1)] lab (F::s)=some (.ptr s.length lab 0,Loc.put F lab (.cell (trapV t (setB t)))::s):=by
 have h0:=e_set_l0 t (F::s)
 have h2:=e_set_l2 t h hop (F::s)
 have h4:=e_set_l4 t h _ (limsT_door h) (F::s)
 rw[words_fold,←setB_two]at h4
 rw[←limsT_fold]at h2
 rw[fill_all]at h0
 have ht:=h.tt
 have eT:((t.T:Nat):Int)=t.times:=by have:t.T=t.times.toNat:=rfl;omega
 simp only[List.length_range,List.length_cons,eT]at h0 h2 h4
 have hz:=zeroV_trap t
 generalize (limsT t).foldl limF b0L=D at*
 generalize setB t=E at*
 generalize b0L=B0 at*
 rw[den_fn t65 _ _ _ rfl]
 simp only[b65]
 simp (maxSteps:=1000000) (disch:=first|omega|assumption|decide +kernel|(simp;done)|(simp;omega)|fail) [h0,h2,h4,hz,hF]
def askT(t:CTrap)(is:Bool):Int:=if trapB t=true then(if is=true then 0 else 1)else 10
theorem e_askC1(t:CTrap)(hs:ShortT t)(is:Bool)(lab s):den T 64 [.agg (vT t), .bool is] lab s=some (i64 (askT t is),s):=by
 have hc:=fun lab s=>e_Check1C t hs lab s
 unfold askT
 rw[den_fn t64 _ _ _ rfl]
 simp only[b64]
 cases h:trapB t<;>cases is<;>simp (maxSteps:=1000000) (disch:=first|omega|assumption|decide +kernel|(simp;done)|(simp;omega)|fail) [hc,h]
def openT(t:CTrap)(is:Bool):Int:=if askT t is=0 then(if clashB (setB t)=true then 3 else 0)else askT t is
theorem ask_trap {t:CTrap} {is:Bool}(h:askT t is=0):trapB t=true∧is=true:=by
 unfold askT at h
 cases h1:trapB t
 ·rw[h1]at h;simp at h
 ·cases is
  ·rw[h1]at h;simp at h
  ·exact⟨rfl,rfl⟩
set_option maxHeartbeats 1000000 in
theorem e_open_no(t:CTrap)(hs:ShortT t)(is:Bool)(h: ¬openT t is=0)(F:Ab.Loc)(s:Stk)(lab:Nat):den T 41 [.agg (vT t), .bool is] lab (F::s)=some (.tup [.nilp,i64 (openT t is)],F::s):=by
 have ha:=fun lab s=>e_askC1 t hs is lab s
 unfold openT at h⊢
 rw[den_fn t41 _ _ _ rfl]
 simp only[b41]
 by_cases h1:askT t is=0
 ·rw[if_pos h1]at h⊢
  obtain⟨k1,k2⟩:=ask_trap h1
  have hok:=trapB_ok k1
  cases hc:clashB (setB t)
  ·rw[hc]at h;simp at h
  have hS:=fun(G:Ab.Loc) lab hG=>e_set t hok (trapB_open k1) G (F::s) lab hG
  have hcl:=fun(G:Ab.Loc) lab (hG:Loc.get G 240=some (.cell (trapV t (setB t))))=>e_clash t (F::s).length 240 (setB t) (setB_mag hok).len (G::F::s) (by simp) (by simp[hG]) lab
  rw[hc]at hcl
  simp only[List.length_cons]at hcl hS
  generalize setB t=B at*
  simp (maxSteps:=1000000) (disch:=first|omega|assumption|decide +kernel|(simp;done)|(simp;omega)|fail) [ha,h1,hS,hcl]
 ·rw[if_neg h1]
  simp (maxSteps:=1000000) (disch:=first|omega|assumption|decide +kernel|(simp;done)|(simp;omega)|fail) [ha,h1]
set_option maxHeartbeats 1000000 in
theorem e_open_ok(t:CTrap)(hs:ShortT t)(is:Bool)(h:openT t is=0)(F:Ab.Loc)(s:Stk)(lab:Nat)(hF:Loc.get F lab=none):den T 41 [.agg (vT t), .bool is] lab (F::s)=some (.tup [.ptr s.length lab 0,i64 0],Loc.put F lab (.cell (trapV t (setB t)))::s):=by
 have ha:=fun lab s=>e_askC1 t hs is lab s
 unfold openT at h
 by_cases h1:askT t is=0
 rotate_left
 ·rw[if_neg h1]at h;exact absurd h h1
 rw[if_pos h1]at h
 obtain⟨k1,k2⟩:=ask_trap h1
 have hok:=trapB_ok k1
 have hc:clashB (setB t)=false:=by cases hc:clashB (setB t);rfl;rw[hc]at h;simp at h
 have hS:=fun(G:Ab.Loc) lab hG=>e_set t hok (trapB_open k1) G (F::s) lab hG
 have hcl:=fun(G:Ab.Loc) lab (hG:Loc.get G 240=some (.cell (trapV t (setB t))))=>e_clash t (F::s).length 240 (setB t) (setB_mag hok).len (G::F::s) (by simp) (by simp[hG]) lab
 rw[hc]at hcl
 simp only[List.length_cons]at hcl hS
 generalize setB t=B at*
 rw[den_fn t41 _ _ _ rfl]
 simp only[b41]
 simp (maxSteps:=1000000) (disch:=first|omega|assumption|decide +kernel|(simp;done)|(simp;omega)|fail) [ha,h1,hS,hcl,hF]
end Go.Proofs.YtnglkclmplfnpaaGreat

/-
  Watch: Fish, Came, Judge of counts (not built yet).
-/
namespace Go.Proofs.YtnglkclmplfnpaaGreat
open Go.Ab
theorem openT_ok {t:CTrap} {is:Bool}(h:openT t is=0):trapB t=true∧is=true∧ ∃x,Sol t x:=by
 unfold openT at h
 by_cases h1:askT t is=0
 ·rw[if_pos h1]at h
  obtain⟨k1,k2⟩:=ask_trap h1
  refine⟨k1,k2,(clash_iff (trapB_ok k1)).1 ?_⟩
  cases hc:clashB (setB t)
  ·rfl
  ·rw[hc]at h;simp at h
 ·rw[if_neg h1]at h;exact absurd h h1
theorem openT_of {t:CTrap}(h:trapB t=true) {is:Bool}:openT t is=if is=true then(if isOneB t=true then 0 else 3)else 1:=by
 unfold openT askT
 rw[h]
 cases is
 ·simp
 ·have h1:=clash_iff (trapB_ok h)
  have h2:=isOne_iff (trapB_ok h)
  cases hc:clashB (setB t)
  ·have:isOneB t=true:=h2.2 (h1.1 hc)
   simp[this]
  ·have:isOneB t=false:=by
    cases ho:isOneB t
    ·rfl
    ·have:=h1.2 (h2.1 ho);rw[hc]at this;cases this
   simp[this]
theorem trapB_mid {t:CTrap}(h:trapB t=true):Mid t:=TrapOk.mid (trapB_ok h).cc (trapB_ok h).tt
theorem e_fish(t:CTrap)(h:TrapOk t)(d l:Nat)(i c:Nat)(hi:i<t.T)(hc:c<t.C)(s:Stk)(hd2:d<s.length)(hs:sget s d l=some (.cell (trapV t (setB t))))(lab):
 den T 45 [.ptr d l 0,i64 i,i64 c] lab s=some (.agg [i64 (betwS (setB t) (nodeN t.C i (c+1)) (nodeN t.C i c)).lo,i64 (betwS (setB t) (nodeN t.C i (c+1)) (nodeN t.C i c)).hi],s):=by
 have hd: ¬d=s.length:=by omega
 have hcc:=h.cc
 have e1:t.C=t.chambers.toNat:=rfl
 have n1:=fun(F:Ab.Loc) lab=>e_nodeI t (setB t) h d l i c hi (Nat.le_of_lt hc) i c rfl rfl (F::s) (by simp;omega) (by rw[sget_cons,if_neg hd];exact hs) lab
 have n2:=fun(F:Ab.Loc) lab=>e_nodeI t (setB t) h d l i (c+1) hi (show c+1≤t.C from hc) i ((c:Int)+1) rfl rfl (F::s) (by simp;omega) (by rw[sget_cons,if_neg hd];exact hs) lab
 have hb:=fun(F:Ab.Loc) lab=>e_betw t (nodeN t.C i (c+1)) (nodeN t.C i c) (node_lt h hi (show c+1≤t.C from hc)) (node_lt h hi (Nat.le_of_lt hc)) d l (setB t) (setB_mag h) (F::s) (by simp;omega) (by rw[sget_cons,if_neg hd];exact hs) lab
 have w1:IntKind.i64.wrap ((c:Int)+1)=(c:Int)+1:=wi _ (by omega) (by omega)
 generalize betwS (setB t) (nodeN t.C i (c+1)) (nodeN t.C i c)=b at*
 generalize nodeN t.C i (c+1)=x at*
 generalize nodeN t.C i c=y at*
 rw[den_fn t45 _ _ _ rfl]
 simp only[b45]
 simp (maxSteps:=1000000) (disch:=first|omega|assumption|decide +kernel|(simp;done)|(simp;omega)|fail) [orSlow_none,hd,n1,n2,hb,w1]
def fishC(t:CTrap)(i c:Int):CSp×Int:=if openT t (placeB t i c)=0 then(difR t i.toNat c.toNat i.toNat (c.toNat+1),0)else(⟨0,0⟩,openT t (placeB t i c))
set_option maxHeartbeats 1000000 in
theorem e_Fish(t:CTrap)(hs:ShortT t)(hB:trapB t=true)(i c:Int)(lab s):den T 23 [.agg (vT t),i64 i,i64 c] lab s=some (.tup [.agg [i64 (fishC t i c).1.lo,i64 (fishC t i c).1.hi],i64 (fishC t i c).2],s):=by
 have hp:=fun lab s=>e_isPlace t (trapB_mid hB) i c lab s
 unfold fishC
 rw[den_fn t23 _ _ _ rfl]
 simp only[b23]
 by_cases h:openT t (placeB t i c)=0
 ·obtain⟨k1,k2,k3⟩:=openT_ok h
  have hok:=trapB_ok k1
  have ho:=fun(F:Ab.Loc) lab hF=>e_open_ok t hs (placeB t i c) h F s lab hF
  have hb:(0≤i∧i≤t.times-1)∧0≤c∧c≤t.chambers-1:=by simpa only[placeB,Bool.and_eq_true,wiB_iff]using k2
  have e1:t.C=t.chambers.toNat:=rfl
  have e2:t.T=t.times.toNat:=rfl
  obtain⟨i,rfl⟩: ∃n:Nat,i=n:=⟨i.toNat,by omega⟩
  obtain⟨c,rfl⟩: ∃n:Nat,c=n:=⟨c.toNat,by omega⟩
  have hf:=fun(F:Ab.Loc) (hF:Loc.get F 256=some (.cell (trapV t (setB t)))) lab=>e_fish t hok s.length 256 i c (by omega) (by omega) (F::s) (by simp) (by simp[hF]) lab
  rw[betw_eq hok k3 (by omega) (by omega) (by omega) (by omega)]at hf
  rw[if_pos h]
  rw[k2]at ho
  simp only[Int.toNat_natCast]
  generalize difR t i c i (c+1)=b at*
  generalize setB t=B at*
  simp (maxSteps:=1000000) (disch:=first|omega|assumption|decide +kernel|(simp;done)|(simp;omega)|fail) [orSlow_none,hp,k2,ho,hf]
 ·have ho:=fun(F:Ab.Loc) lab=>e_open_no t hs (placeB t i c) h F s lab
  rw[if_neg h]
  generalize placeB t i c=p at*
  simp (maxSteps:=1000000) (disch:=first|omega|assumption|decide +kernel|(simp;done)|(simp;omega)|fail) [orSlow_none,hp,ho,h]
def cameC(t:CTrap)(i j:Int):CSp×Int:=if openT t (wiB i 0 j&&decide (j<t.times))=0 then(difR t j.toNat 0 i.toNat 0,0)else(⟨0,0⟩,openT t (wiB i 0 j&&decide (j<t.times)))
set_option maxHeartbeats 1000000 in
theorem e_Came(t:CTrap)(hs:ShortT t)(hB:trapB t=true)(i j:Int)(lab s):den T 22 [.agg (vT t),i64 i,i64 j] lab s=some (.tup [.agg [i64 (cameC t i j).1.lo,i64 (cameC t i j).1.hi],i64 (cameC t i j).2],s):=by
 unfold cameC
 rw[den_fn t22 _ _ _ rfl]
 simp only[b22]
 by_cases h:openT t (wiB i 0 j&&decide (j<t.times))=0
 ·obtain⟨k1,k2,k3⟩:=openT_ok h
  have hok:=trapB_ok k1
  have ho:=fun(F:Ab.Loc) lab hF=>e_open_ok t hs _ h F s lab hF
  rw[k2]at ho
  have hb:(0≤i∧i≤j)∧j<t.times:=by simpa only[Bool.and_eq_true,wiB_iff,decide_eq_true_eq]using k2
  have c1:wiB i 0 j=true:=wiB_iff.2 hb.1
  have c2:=hb.2
  have e1:t.C=t.chambers.toNat:=rfl
  have e2:t.T=t.times.toNat:=rfl
  obtain⟨i,rfl⟩: ∃n:Nat,i=n:=⟨i.toNat,by omega⟩
  obtain⟨j,rfl⟩: ∃n:Nat,j=n:=⟨j.toNat,by omega⟩
  have n1:=fun(F:Ab.Loc) (hF:Loc.get F 336=some (.cell (trapV t (setB t)))) lab=>e_nodeI t (setB t) hok s.length 336 i 0 (by omega) (Nat.zero_le _) i 0 rfl rfl (F::s) (by simp) (by simp[hF]) lab
  have n2:=fun(F:Ab.Loc) (hF:Loc.get F 336=some (.cell (trapV t (setB t)))) lab=>e_nodeI t (setB t) hok s.length 336 j 0 (by omega) (Nat.zero_le _) j 0 rfl rfl (F::s) (by simp) (by simp[hF]) lab
  have hb:=fun(F:Ab.Loc) (hF:Loc.get F 336=some (.cell (trapV t (setB t)))) lab=>e_betw t (nodeN t.C i 0) (nodeN t.C j 0) (node_lt hok (by omega) (Nat.zero_le _)) (node_lt hok (by omega) (Nat.zero_le _)) s.length 336 (setB t) (setB_mag hok) (F::s) (by simp) (by simp[hF]) lab
  rw[betw_eq hok k3 (by omega) (Nat.zero_le _) (by omega) (Nat.zero_le _)]at hb
  rw[if_pos h]
  simp only[Int.toNat_natCast]
  generalize difR t j 0 i 0=b at*
  generalize setB t=B at*
  generalize nodeN t.C i 0=x at*
  generalize nodeN t.C j 0=y at*
  simp (maxSteps:=1000000) (disch:=first|omega|assumption|decide +kernel|(simp;done)|(simp;omega)|fail) [orSlow_none,c1,c2,ho,n1,n2,hb]
 ·have ho:=fun(F:Ab.Loc) lab=>e_open_no t hs _ h F s lab
  rw[if_neg h]
  cases c1:wiB i 0 j
  ·rw[c1]at ho h
   simp only[Bool.false_and]at ho h⊢
   simp (maxSteps:=1000000) (disch:=first|omega|assumption|decide +kernel|(simp;done)|(simp;omega)|fail) [orSlow_none,c1,ho,h]
  ·rw[c1]at ho h
   simp only[Bool.true_and]at ho h⊢
   by_cases c2:j<t.times
   ·simp only[c2,decide_true]at ho h⊢
    simp (maxSteps:=1000000) (disch:=first|omega|assumption|decide +kernel|(simp;done)|(simp;omega)|fail) [orSlow_none,c1,c2,ho,h]
   ·simp only[c2,decide_false]at ho h⊢
    simp (maxSteps:=1000000) (disch:=first|omega|assumption|decide +kernel|(simp;done)|(simp;omega)|fail) [orSlow_none,c1,c2,ho,h]
end Go.Proofs.YtnglkclmplfnpaaGreat

/-
  Watch: counts.Truth, hasTruth (not built yet).
-/
namespace Go.Proofs.YtnglkclmplfnpaaGreat
open Go.Ab
def rowT(t:CTrap)(i c:Nat):Int:=(betwS (setB t) 0 (nodeN t.C i c)).lo-(betwS (setB t) 0 (nodeN t.C i (c+1))).lo
def rowTS(t:CTrap)(i:Nat)(R:List Int)(c:Nat):List Int:=R.set c (rowT t i c)
def rowTL(t:CTrap)(i:Nat):List Int:=(List.range t.C).foldl (rowTS t i) (List.replicate t.C 0)
theorem rowTS_len(t:CTrap)(i:Nat): ∀(l:List Nat) (R:List Int),(l.foldl (rowTS t i) R).length=R.length
 |[],_=>rfl
 |c::l,R=>by rw[List.foldl_cons,rowTS_len t i l];simp[rowTS]
@[simp] theorem rowTL_len(t i):(rowTL t i).length=t.C:=by unfold rowTL;rw[rowTS_len];simp
end Go.Proofs.YtnglkclmplfnpaaGreat

/-
  Watch: counts.Truth and hasTruth.
-/
namespace Go.Proofs.YtnglkclmplfnpaaGreat
open Go.Ab
end Go.Proofs.YtnglkclmplfnpaaGreat

/-
  Watch: the reference's Copy (not built yet).
-/
namespace Go.Proofs.YtnglkclmplfnpaaGreat
open Go.Ab
def cpyF(t:CTrap)(d:Nat)(wE:Ab.Loc)(wv:V)(a:List (List Int)):Ab.Loc:=
 (16, .cell (vT t))::(32, .cell [i64 0,i64 0, .sl .full 1 [], .sl .full 4 []])::(wE ++[(48, .cell [i64 t.chambers,i64 t.times, .sl (.own d 52) 1 (es cInts a),wv]),(52, .tok a.length)])
set_option maxHeartbeats 2000000 in
theorem e_Copy_l0(t:CTrap)(hs:ShortT t)(ho:t.opn.length<5864062014800)(he: ∀l,l∈t.opn→l.length<17592186044416)(hw:t.words=[])(s:Stk):
 Run T b20l0 [(1, .ptr s.length 16 0),(2, .ptr s.length 32 0),(3, .ptr s.length 48 0),(4,i64 0)] (cpyF t s.length [] (.sl .full 4 []) []::s)=
  some (.exit 0,[(1, .ptr s.length 16 0),(2, .ptr s.length 32 0),(3, .ptr s.length 48 0),(4,i64 t.opn.length),(18, .bool false)],cpyF t s.length [] (.sl .full 4 []) t.opn::s):=by
 have key:=loop_fold (T:=T) (live:=[1,2,3,4]) (keep:=[16,32,48,52,144,192]) (b:=d20l0) t.opn (fun k (a:List (List Int))=>a.length=k) (fun a x=>a ++[x])
  (fun k _=>[(1, .ptr s.length 16 0),(2, .ptr s.length 32 0),(3, .ptr s.length 48 0),(4,i64 k)]) (fun _ a=>cpyF t s.length [] (.sl .full 4 []) a::s)
  (fun a=>(.exit 0,[(1, .ptr s.length 16 0),(2, .ptr s.length 32 0),(3, .ptr s.length 48 0),(4,i64 t.opn.length),(18, .bool false)],cpyF t s.length [] (.sl .full 4 []) a::s))
  (by simp) ?_ ?_ ?_ [] (by simp) [(1, .ptr s.length 16 0),(2, .ptr s.length 32 0),(3, .ptr s.length 48 0),(4,i64 0)] (cpyF t s.length [] (.sl .full 4 []) []::s) (by simp) (by simp[cpyF])
 ·have e: ∀(l a:List (List Int)),l.foldl (fun a x=>a ++[x]) a=a ++l:=by
   intro l
   induction l with
   |nil=>simp
   |cons x r ih=>intro a;simp[ih]
  rw[e,List.nil_append]at key
  exact key
 ·intro k a hk hi
  subst hi
  have hx:=he t.opn[a.length] (List.getElem_mem hk)
  have hk2:(a.length:Int)<t.opn.length:=by omega
  have e0: ∀x,es cInts a ++[[.sl .no 1 (es cInt x)]]=es cInts (a ++[x]):=fun x=>by simp[es]
  generalize hR:t.opn[a.length]=R at*
  by_cases h0:R=[]
  ·subst h0
   have e0:=e0 []
   simp only[es_nil]at e0
   simp (maxSteps:=1000000) (disch:=first|omega|assumption|decide +kernel|(simp;done)|(simp;omega)|fail) [run_drawnK,cpyF,hk,hk2,hR,e0,appD_full_nil,appK_own1,wk a.length (by omega)]
  ·have hne:es cInt R≠[]:=by simpa using h0
   simp (maxSteps:=1000000) (disch:=first|omega|assumption|decide +kernel|(simp;done)|(simp;omega)|fail) [run_drawnK,cpyF,hk,hk2,hR,e0,hne,appD_full,appK_own1,wk a.length (by omega)]
 ·intro k a hk hi
  simp[hi]
 ·intro a hi
  simp[cpyF]
set_option maxHeartbeats 2000000 in
theorem e_Copy_l1(t:CTrap)(hs:ShortT t)(ho:t.opn.length<5864062014800)(he: ∀l,l∈t.opn→l.length<17592186044416)(hw:t.words≠[])(s:Stk):
 Run T b20l0 [(1, .ptr s.length 16 0),(2, .ptr s.length 32 0),(3, .ptr s.length 48 0),(4,i64 0)] (cpyF t s.length [(192, .tok t.words.length)] (.sl (.own s.length 192) 4 (es cWord t.words)) []::s)=
  some (.exit 0,[(1, .ptr s.length 16 0),(2, .ptr s.length 32 0),(3, .ptr s.length 48 0),(4,i64 t.opn.length),(18, .bool false)],cpyF t s.length [(192, .tok t.words.length)] (.sl (.own s.length 192) 4 (es cWord t.words)) t.opn::s):=by
 have key:=loop_fold (T:=T) (live:=[1,2,3,4]) (keep:=[16,32,48,52,144,192]) (b:=d20l0) t.opn (fun k (a:List (List Int))=>a.length=k) (fun a x=>a ++[x])
  (fun k _=>[(1, .ptr s.length 16 0),(2, .ptr s.length 32 0),(3, .ptr s.length 48 0),(4,i64 k)]) (fun _ a=>cpyF t s.length [(192, .tok t.words.length)] (.sl (.own s.length 192) 4 (es cWord t.words)) a::s)
  (fun a=>(.exit 0,[(1, .ptr s.length 16 0),(2, .ptr s.length 32 0),(3, .ptr s.length 48 0),(4,i64 t.opn.length),(18, .bool false)],cpyF t s.length [(192, .tok t.words.length)] (.sl (.own s.length 192) 4 (es cWord t.words)) a::s))
  (by simp) ?_ ?_ ?_ [] (by simp) [(1, .ptr s.length 16 0),(2, .ptr s.length 32 0),(3, .ptr s.length 48 0),(4,i64 0)] (cpyF t s.length [(192, .tok t.words.length)] (.sl (.own s.length 192) 4 (es cWord t.words)) []::s) (by simp) (by simp[cpyF])
 ·have e: ∀(l a:List (List Int)),l.foldl (fun a x=>a ++[x]) a=a ++l:=by
   intro l
   induction l with
   |nil=>simp
   |cons x r ih=>intro a;simp[ih]
  rw[e,List.nil_append]at key
  exact key
 ·intro k a hk hi
  subst hi
  have hx:=he t.opn[a.length] (List.getElem_mem hk)
  have hk2:(a.length:Int)<t.opn.length:=by omega
  have e0: ∀x,es cInts a ++[[.sl .no 1 (es cInt x)]]=es cInts (a ++[x]):=fun x=>by simp[es]
  generalize hR:t.opn[a.length]=R at*
  by_cases h0:R=[]
  ·subst h0
   have e0:=e0 []
   simp only[es_nil]at e0
   simp (maxSteps:=1000000) (disch:=first|omega|assumption|decide +kernel|(simp;done)|(simp;omega)|fail) [run_drawnK,cpyF,hk,hk2,hR,e0,appD_full_nil,appK_own1,wk a.length (by omega)]
  ·have hne:es cInt R≠[]:=by simpa using h0
   simp (maxSteps:=1000000) (disch:=first|omega|assumption|decide +kernel|(simp;done)|(simp;omega)|fail) [run_drawnK,cpyF,hk,hk2,hR,e0,hne,appD_full,appK_own1,wk a.length (by omega)]
 ·intro k a hk hi
  simp[hi]
 ·intro a hi
  simp[cpyF]
set_option maxHeartbeats 2000000 in
theorem e_Copy01g_0(t:CTrap)(hs:ShortT t)(ho:t.opn.length<5864062014800)(he: ∀l,l∈t.opn→l.length<17592186044416)(hw:t.words=[])(loc:Ab.Loc)(s:Stk)(lab:Nat)(k0:loc.get lab=none):
 den T 20 [.agg (vT t)] lab (loc::s)=some (.agg [i64 t.chambers,i64 t.times, .sl (.own s.length lab) 1 (es cInts t.opn), .sl .full 4 []],loc.put lab (.tok t.opn.length)::s):=by
 have key:=e_Copy_l0 t hs ho he hw (loc::s)
 simp only[cpyF,List.length_cons,es_nil,List.length_nil,List.nil_append,List.cons_append]at key
 rw[den_fn t20 _ _ _ rfl]
 simp only[b20]
 simp (maxSteps:=6000000) (disch:=first|omega|assumption|decide +kernel|(simp;done)|(simp;omega)|fail) [run_drawnK,hw,appD_full_nil,key,k0]
set_option maxHeartbeats 2000000 in
theorem e_Copy01g_1(t:CTrap)(hs:ShortT t)(ho:t.opn.length<5864062014800)(hwl:t.words.length<4398046511104)(he: ∀l,l∈t.opn→l.length<17592186044416)(hw:t.words≠[])(loc:Ab.Loc)(s:Stk)(lab:Nat)(k0:loc.get lab=none)(k1:loc.get (lab+1000)=none):
 den T 20 [.agg (vT t)] lab (loc::s)=some (.agg [i64 t.chambers,i64 t.times, .sl (.own s.length lab) 1 (es cInts t.opn), .sl (.own s.length (lab+1000)) 4 (es cWord t.words)],(loc.put lab (.tok t.opn.length)).put (lab+1000) (.tok t.words.length)::s):=by
 have key:=e_Copy_l1 t hs ho he hw (loc::s)
 simp only[cpyF,List.length_cons,es_nil,List.length_nil,List.nil_append,List.cons_append]at key
 have hne:es cWord t.words≠[]:=by simpa using hw
 rw[den_fn t20 _ _ _ rfl]
 simp only[b20]
 simp (maxSteps:=6000000) (disch:=first|omega|assumption|decide +kernel|(simp;done)|(simp;omega)|fail) [run_drawnK,hne,appD_full,key,k0,k1]
theorem e_Copy01_0(t:CTrap)(hs:ShortT t)(ho:t.opn.length<1000000)(he: ∀l,l∈t.opn→l.length<1000000)(hw:t.words=[])(loc:Ab.Loc)(s:Stk)(lab:Nat)(k0:loc.get lab=none):
 den T 20 [.agg (vT t)] lab (loc::s)=some (.agg [i64 t.chambers,i64 t.times, .sl (.own s.length lab) 1 (es cInts t.opn), .sl .full 4 []],loc.put lab (.tok t.opn.length)::s):=
 e_Copy01g_0 t hs (by omega) (fun l hl=>by have:=he l hl;omega) hw loc s lab k0
theorem e_Copy01_1(t:CTrap)(hs:ShortT t)(ho:t.opn.length<1000000)(hwl:t.words.length<1000000)(he: ∀l,l∈t.opn→l.length<1000000)(hw:t.words≠[])(loc:Ab.Loc)(s:Stk)(lab:Nat)(k0:loc.get lab=none)(k1:loc.get (lab+1000)=none):
 den T 20 [.agg (vT t)] lab (loc::s)=some (.agg [i64 t.chambers,i64 t.times, .sl (.own s.length lab) 1 (es cInts t.opn), .sl (.own s.length (lab+1000)) 4 (es cWord t.words)],(loc.put lab (.tok t.opn.length)).put (lab+1000) (.tok t.words.length)::s):=
 e_Copy01g_1 t hs (by omega) (by omega) (fun l hl=>by have:=he l hl;omega) hw loc s lab k0 k1
end Go.Proofs.YtnglkclmplfnpaaGreat

/-
  Watch: the reference's Told, Judge.
-/
namespace Go.Proofs.YtnglkclmplfnpaaGreat
open Go.Ab
@[simp] theorem frzE_tok(l e loc r n):frzE l e loc r (some (.tok n))=(e,loc::r):=rfl
structure CopyT(t:CTrap):Prop where
 opn:t.opn.length<1000000
 words:t.words.length<1000000
 each: ∀l,l∈t.opn→l.length<1000000
theorem CopyT.short {t:CTrap}(h:CopyT t):ShortT t:=⟨by have:=h.opn;omega,by have:=h.words;omega,fun l hl=>by have:=h.each l hl;omega⟩
theorem trapB_copy {t:CTrap}(h:trapB t=true):CopyT t:=by
 have hok:=trapB_ok h
 have h1:=hok.opn
 have h2:=hok.tt
 have h3:=hok.words
 refine⟨by omega,by omega,fun l hl=> ?_⟩
 obtain⟨h1,h2⟩:=rising_iff.1 (trapB_rise h hl)
 have hc:=hok.cc
 have:=pair_lenL (lo:=0) (n:=4) h1 fun x hx=>by have:=h2 x hx;omega
 omega
set_option maxHeartbeats 2000000 in
theorem e_Told01(t:CTrap)(hc:CopyT t)(w:CWord)(lab s):den T 48 [.agg (vT t), .agg [i64 w.time,i64 w.chamber,i64 w.lo,i64 w.hi]] lab s=some (.agg (vT (toldT t w)),s):=by
 obtain⟨h1,h2,h3⟩:=hc
 have hs:ShortT t:=CopyT.short ⟨h1,h2,h3⟩
 have e0:es cWord t.words ++[[i64 w.time,i64 w.chamber,i64 w.lo,i64 w.hi]]=es cWord (t.words ++[w]):=by simp[es]
 unfold toldT
 by_cases hw:t.words=[]
 ·have hC:=fun(loc:Ab.Loc) lab k0=>e_Copy01_0 t hs h1 h3 hw loc s lab k0
  have e1:[[i64 w.time,i64 w.chamber,i64 w.lo,i64 w.hi]]=es cWord [w]:=rfl
  rw[hw,List.nil_append]
  rw[den_fn t48 _ _ _ rfl]
  simp only[b48]
  simp (maxSteps:=6000000) (disch:=first|omega|assumption|decide +kernel|(simp;done)|(simp;omega)|fail) [hC,e1,appK_full]
 ·have hC:=fun(loc:Ab.Loc) lab k0 k1=>e_Copy01_1 t hs h1 h2 h3 hw loc s lab k0 k1
  rw[den_fn t48 _ _ _ rfl]
  simp only[b48]
  simp (maxSteps:=6000000) (disch:=first|omega|assumption|decide +kernel|(simp;done)|(simp;omega)|fail) [hC,e0,appK_own1]
end Go.Proofs.YtnglkclmplfnpaaGreat

/-
  Doors, the plain law: rising lists in order; lists as bits.
-/
namespace Go.Proofs.YtnglkclmplfnpaaGreat
end Go.Proofs.YtnglkclmplfnpaaGreat

/-
  Doors, the plain law: traps, ways, changes, moves, the worth.
-/
namespace Go.Proofs.YtnglkclmplfnpaaGreat
structure DGate where
 a:Int
 b:Int
 op:Bool
 deriving DecidableEq,Inhabited
structure DGroup where
 pos:Int
 fish:Int
 deriving DecidableEq,Inhabited
structure DTrap where
 chambers:Int
 turns:Int
 hands:Int
 gates:List DGate
 groups:List DGroup
 deriving DecidableEq,Inhabited
def wayB(gs:List DGate)(p c:Int):Bool:=gs.any fun g=>g.op&&(decide (g.a=p)&&decide (g.b=c)||decide (g.b=p)&&decide (g.a=c))
def rangeI(n:Nat):List Int:=(List.range n).map fun(i:Nat)=>(i:Int)
def waysS(n:Nat)(gs:List DGate)(p:Int):List Int:=let l:=(rangeI n).filter (wayB gs p);if l=[]then [p]else l
def choicesS(h g:Nat):List (List Int):=(allL g).filter fun c=>decide (c.length≤h)
def flipS(c:List Int):Nat→List DGate→List DGate
 |_,[]=>[]
 |i,g::r=>(if (i:Int)∈c then {g with op:= !g.op}else g)::flipS c (i+1) r
abbrev flipG(gs:List DGate)(c:List Int):List DGate:=flipS c 0 gs
def movesS:List (List Int)→List (List Int)
 |[]=>[[]]
 |w::r=>w.flatMap fun x=>(movesS r).map (x:: ·)
def caughtS(n:Nat):List Int→List Int→Int
 |f::fs,p::ps=>(if p=(n:Int)-1 then f else 0)+caughtS n fs ps
 |_,_=>0
def minL:List Int→Int
 |[]=>0
 |[x]=>x
 |x::r=>min x (minL r)
def maxL:List Int→Int
 |[]=>0
 |x::r=>max x (maxL r)
def worthS(n h:Nat)(fs:List Int):Nat→List DGate→List Int→Int
 |0,_,ps=>caughtS n fs ps
 |k+1,gs,ps=>maxL ((choicesS h gs.length).map fun c=>minL ((movesS (ps.map (waysS n (flipG gs c)))).map (worthS n h fs k (flipG gs c))))
def leastS(n h:Nat)(fs:List Int)(k:Nat)(gs:List DGate)(ps:List Int):Int:=minL ((movesS (ps.map (waysS n gs))).map (worthS n h fs k gs))
theorem worthS_succ(n h fs k gs ps):worthS n h fs (k+1) gs ps=maxL ((choicesS h gs.length).map fun c=>leastS n h fs k (flipG gs c) ps):=rfl
@[simp] theorem flipS_length(c:List Int): ∀(i:Nat) (gs:List DGate),(flipS c i gs).length=gs.length
 |_,[]=>rfl
 |i,g::r=>by simp[flipS,flipS_length c (i+1) r]
theorem flipS_get(c:List Int): ∀(i:Nat) (gs:List DGate) (j:Nat),(flipS c i gs)[j]? =(gs[j]?).map fun g=>if ((i+j:Nat):Int)∈c then {g with op:= !g.op}else g
 |_,[],j=>by simp[flipS]
 |i,g::r,0=>by simp[flipS]
 |i,g::r,j+1=>by
   simp only[flipS,List.getElem?_cons_succ,flipS_get c (i+1) r j]
   rw[show i+1+j=i+(j+1)by omega]
theorem minL_cons(x:Int)(r:List Int):minL (x::r)=if r=[]then x else min x (minL r):=by cases r<;>simp[minL]
theorem minL_mem: ∀ {l:List Int},l≠[]→minL l∈l
 |[x],_=>by simp[minL]
 |x::y::r,_=>by
   rw[minL_cons,if_neg (by simp)]
   have:=minL_mem (l:=y::r) (by simp)
   by_cases h:x≤minL (y::r)
   ·rw[Int.min_eq_left h];simp
   ·rw[Int.min_eq_right (by omega)];exact List.mem_cons_of_mem _ this
theorem maxL_nonneg: ∀(l:List Int),0≤maxL l
 |[]=>Int.le_refl _
 |x::r=>by simp only[maxL];have:=maxL_nonneg r;omega
theorem maxL_mem: ∀ {l:List Int},l≠[]→(∀x∈l,0≤x)→maxL l∈l
 |[x],_,h=>by simp only[maxL];have:=h x (by simp);rw[Int.max_eq_left this];simp
 |x::y::r,_,h=>by
   have:=maxL_mem (l:=y::r) (by simp) fun z hz=>h z (by simp[List.mem_cons.1 hz])
   rw[maxL]
   by_cases hx:maxL (y::r)≤x
   ·rw[Int.max_eq_left hx];simp
   ·rw[Int.max_eq_right (by omega)];exact List.mem_cons_of_mem _ this
theorem waysS_ne(n gs p):waysS n gs p≠[]:=by
 unfold waysS
 dsimp only
 split
 ·simp
 ·assumption
theorem mem_rangeI {n:Nat} {c:Int}:c∈rangeI n↔0≤c∧c<n:=by
 simp only[rangeI,List.mem_map,List.mem_range]
 constructor
 ·rintro⟨i,h,rfl⟩;omega
 ·rintro⟨h1,h2⟩;exact⟨c.toNat,by omega,by omega⟩
theorem waysS_range {n:Nat} {gs:List DGate} {p c:Int}(hp:0≤p∧p<n)(h:c∈waysS n gs p):0≤c∧c<n:=by
 unfold waysS at h
 dsimp only at h
 split at h
 ·simp at h;subst h;exact hp
 ·exact mem_rangeI.1 (List.mem_filter.1 h).1
theorem movesS_ne: ∀ {l:List (List Int)},(∀w∈l,w≠[])→movesS l≠[]
 |[],_=>by simp[movesS]
 |w::r,h=>by
   have h1:=h w (by simp)
   have h2:=movesS_ne (l:=r) fun x hx=>h x (by simp[hx])
   obtain⟨x,t,rfl⟩:=List.exists_cons_of_ne_nil h1
   obtain⟨y,t2,e⟩:=List.exists_cons_of_ne_nil h2
   simp[movesS,e]
theorem mem_movesS: ∀ {l:List (List Int)} {m:List Int},m∈movesS l↔m.length=l.length∧ ∀(i:Nat) x w,m[i]? =some x→l[i]? =some w→x∈w
 |[],m=>by
   simp only[movesS,List.mem_singleton,List.length_nil,List.length_eq_zero_iff]
   constructor
   ·rintro rfl;exact⟨rfl,fun i x w h=>by simp at h⟩
   ·exact fun h=>h.1
 |w::r,m=>by
   simp only[movesS,List.mem_flatMap,List.mem_map]
   constructor
   ·rintro⟨x,hx,m',hm,rfl⟩
    obtain⟨h1,h2⟩:=mem_movesS.1 hm
    refine⟨by simp[h1],fun i y u hy hu=> ?_⟩
    cases i with
    |zero=>simp at hy hu;subst hy hu;exact hx
    |succ i=>exact h2 i y u (by simpa using hy) (by simpa using hu)
   ·rintro⟨h1,h2⟩
    cases m with
    |nil=>simp at h1
    |cons x m'=>exact⟨x,h2 0 x w rfl rfl,m',mem_movesS.2 ⟨by simpa using h1,fun i y u hy hu=>h2 (i+1) y u (by simpa using hy) (by simpa using hu)⟩,rfl⟩
theorem moves_ne(n:Nat)(gs:List DGate)(ps:List Int):movesS (ps.map (waysS n gs))≠[]:=movesS_ne fun w hw=>by
 obtain⟨p,_,rfl⟩:=List.mem_map.1 hw
 exact waysS_ne n gs p
theorem mem_moves {n:Nat} {gs:List DGate} {ps m:List Int}:m∈movesS (ps.map (waysS n gs))↔m.length=ps.length∧ ∀(i:Nat) x p,m[i]? =some x→ps[i]? =some p→x∈waysS n gs p:=by
 rw[mem_movesS]
 simp only[List.length_map,List.getElem?_map]
 constructor
 ·rintro⟨h1,h2⟩;exact⟨h1,fun i x p hx hp=>h2 i x _ hx (by simp[hp])⟩
 ·rintro⟨h1,h2⟩
  refine⟨h1,fun i x w hx hw=> ?_⟩
  obtain⟨p,hp,rfl⟩:=Option.map_eq_some_iff.1 hw
  exact h2 i x p hx hp
theorem mem_choices {h g:Nat} {c:List Int}:c∈choicesS h g↔c.length≤h∧c.Pairwise (· < ·)∧ ∀y∈c,0≤y∧y<g:=by
 simp only[choicesS,List.mem_filter,decide_eq_true_eq,allL_mem]
 constructor
 ·rintro⟨h1,h2⟩;exact⟨h2,h1⟩
 ·rintro⟨h1,h2⟩;exact⟨h2,h1⟩
theorem choices_ne(h g:Nat):choicesS h g≠[]:=fun e=>by
 have:([]:List Int)∈choicesS h g:=mem_choices.2 ⟨by simp, .nil,by simp⟩
 rw[e]at this;simp at this
theorem choices_sorted(h g:Nat):(choicesS h g).Pairwise fun a b=>cmpL a b<0:=(allL_sorted g).filter _
theorem caughtS_nonneg(n:Nat): ∀ {fs ps:List Int},(∀f∈fs,0≤f)→0≤caughtS n fs ps
 |[],_,_=>by simp[caughtS]
 |f::fs,[],_=>by simp[caughtS]
 |f::fs,p::ps,h=>by
   have h1:=caughtS_nonneg n (fs:=fs) (ps:=ps) fun x hx=>h x (by simp[hx])
   have h2:=h f (by simp)
   simp only[caughtS];split<;>omega
theorem worthS_nonneg {n h:Nat} {fs:List Int}(hf: ∀f∈fs,0≤f): ∀(k:Nat) (gs:List DGate) (ps:List Int),0≤worthS n h fs k gs ps
 |0,_,_=>caughtS_nonneg n hf
 |k+1,gs,ps=>maxL_nonneg _
theorem leastS_mem(n h fs k gs ps): ∃m∈movesS (ps.map (waysS n gs)),leastS n h fs k gs ps=worthS n h fs k gs m:=by
 have:=minL_mem (l:=(movesS (ps.map (waysS n gs))).map (worthS n h fs k gs)) (by simpa using moves_ne n gs ps)
 obtain⟨m,h1,h2⟩:=List.mem_map.1 this
 exact⟨m,h1,h2.symm⟩
theorem le_leastS {n h:Nat} {fs:List Int} {k:Nat} {gs:List DGate} {ps:List Int} {v:Int}(hv: ∀m∈movesS (ps.map (waysS n gs)),v≤worthS n h fs k gs m):v≤leastS n h fs k gs ps:=by
 obtain⟨m,h1,h2⟩:=leastS_mem n h fs k gs ps
 rw[h2];exact hv m h1
theorem leastS_nonneg {n h:Nat} {fs:List Int}(hf: ∀f∈fs,0≤f)(k gs ps):0≤leastS n h fs k gs ps:=le_leastS fun m _=>worthS_nonneg hf k gs m
theorem worthS_mem {n h:Nat} {fs:List Int}(hf: ∀f∈fs,0≤f)(k gs ps): ∃c∈choicesS h gs.length,worthS n h fs (k+1) gs ps=leastS n h fs k (flipG gs c) ps:=by
 have:=maxL_mem (l:=(choicesS h gs.length).map fun c=>leastS n h fs k (flipG gs c) ps) (by simpa using choices_ne h gs.length) (fun x hx=>by
  obtain⟨c,_,rfl⟩:=List.mem_map.1 hx
  exact leastS_nonneg hf k _ ps)
 obtain⟨c,h1,h2⟩:=List.mem_map.1 this
 exact⟨c,h1,h2.symm⟩
def sumF(l:List Int):Int:=l.foldr (· + ·) 0
theorem caughtS_le(n:Nat): ∀ {fs ps:List Int},(∀f∈fs,0≤f)→caughtS n fs ps≤sumF fs
 |[],_,_=>by simp[caughtS,sumF]
 |f::fs,[],h=>by
   have h1:=caughtS_le n (fs:=fs) (ps:=[]) fun x hx=>h x (by simp[hx])
   have h2:=h f (by simp)
   have h3:caughtS n fs []=0:=by cases fs<;>rfl
   simp only[caughtS,sumF,List.foldr_cons]at h1⊢;omega
 |f::fs,p::ps,h=>by
   have h1:=caughtS_le n (fs:=fs) (ps:=ps) fun x hx=>h x (by simp[hx])
   have h2:=h f (by simp)
   simp only[caughtS,sumF,List.foldr_cons]at h1⊢;split<;>omega
theorem worthS_le {n h:Nat} {fs:List Int}(hf: ∀f∈fs,0≤f): ∀(k:Nat) (gs:List DGate) (ps:List Int),worthS n h fs k gs ps≤sumF fs
 |0,_,_=>caughtS_le n hf
 |k+1,gs,ps=>by
   obtain⟨c,_,e⟩:=worthS_mem (n:=n) (h:=h) hf k gs ps
   obtain⟨m,_,e2⟩:=leastS_mem n h fs k (flipG gs c) ps
   rw[e,e2];exact worthS_le hf k _ m
end Go.Proofs.YtnglkclmplfnpaaGreat

/-
  Doors: types; helpers of the reference of layer 1.
-/
namespace Go.Proofs.YtnglkclmplfnpaaGreat
open Go.Ab
@[simp] def cGate(g:DGate):List V:=[i64 g.a,i64 g.b, .bool g.op]
@[simp] theorem map_cGate(r:Ren)(l):(es cGate l).map (V.mapAll r)=es cGate l:=es_map _ _ (fun _=>by simp) _
@[simp] theorem strip_cGate(l):(es cGate l).map V.stripAll=es cGate l:=es_strip _ (fun _=>by simp) _
@[simp] theorem refs_cGate(own:Bool)(d:Nat)(l):(es cGate l).flatMap (V.refsAll own d)=[]:=es_refs _ _ _ (fun _=>by simp) _
@[simp] theorem elems_cGate(l):elemsOk (es cGate l) 3=true:=elemsOk_es _ _ (fun _=>by simp) _
@[simp] theorem DGate.eta(g:DGate):DGate.mk g.a g.b g.op=g:=rfl
@[simp] def cGroup(g:DGroup):List V:=[i64 g.pos,i64 g.fish]
@[simp] theorem map_cGroup(r:Ren)(l):(es cGroup l).map (V.mapAll r)=es cGroup l:=es_map _ _ (fun _=>by simp) _
@[simp] theorem strip_cGroup(l):(es cGroup l).map V.stripAll=es cGroup l:=es_strip _ (fun _=>by simp) _
@[simp] theorem refs_cGroup(own:Bool)(d:Nat)(l):(es cGroup l).flatMap (V.refsAll own d)=[]:=es_refs _ _ _ (fun _=>by simp) _
@[simp] theorem elems_cGroup(l):elemsOk (es cGroup l) 2=true:=elemsOk_es _ _ (fun _=>by simp) _
@[simp] theorem DGroup.eta(g:DGroup):DGroup.mk g.pos g.fish=g:=rfl
@[simp] theorem DTrap.eta(t:DTrap):DTrap.mk t.chambers t.turns t.hands t.gates t.groups=t:=rfl
@[simp] abbrev dV(t:DTrap):List V:=[i64 t.chambers,i64 t.turns,i64 t.hands, .sl .no 3 (es cGate t.gates), .sl .no 2 (es cGroup t.groups)]
@[simp] theorem e_withinD(n lo hi:Int)(lab s):den T 56 [i64 n,i64 lo,i64 hi] lab s=some (.bool (wiB n lo hi),s):=by
 rw[den_fn t56 _ _ _ rfl]
 simp only[b56]
 by_cases h:lo≤n<;>simp[h,wiB]
@[simp] theorem e_within03(n lo hi:Int)(lab s):den T 24 [i64 n,i64 lo,i64 hi] lab s=some (.bool (wiB n lo hi),s):=by
 rw[den_fn t24 _ _ _ rfl]
 simp only[b24]
 simp
end Go.Proofs.YtnglkclmplfnpaaGreat

/-
  Doors: bits, their lists.
-/
namespace Go.Proofs.YtnglkclmplfnpaaGreat
open Go.Ab
def shrN(a n:Nat):Nat:=a>>>n
def lowN(a:Nat):Nat:=a%2
def orN(a b:Nat):Nat:=a|||b
def xorN(a b:Nat):Nat:=a^^^b
def powN(n:Nat):Nat:=2^n
theorem bshr {a n:Nat}(hn:n<64):bin .shr (i64 (a:Nat)) (i64 (n:Nat))=some (i64 ((shrN a n:Nat):Int)):=by
 have h1:((a:Int)).fdiv (2^min n IntKind.i64.bits)=((a>>>n:Nat):Int):=by
  rw[show min n IntKind.i64.bits=n by have:IntKind.i64.bits=64:=rfl;omega,Nat.shiftRight_eq_div_pow]
  rw[Int.fdiv_eq_ediv_of_nonneg _ (by exact Int.le_of_lt (Int.pow_pos (by decide)))]
  push_cast
  rfl
 have h2: ¬(n:Int)<0:=by omega
 rw[bin_shr,if_neg h2,Int.toNat_natCast,h1];rfl
theorem bv_nat(a:Nat):(BitVec.ofInt 64 (a:Int))=BitVec.ofNat 64 a:=by simp
theorem wrap_nat {a:Nat}(h:a<4294967296):IntKind.i64.wrap (a:Int)=a:=wi _ (by omega) (by omega)
theorem band {a:Nat}(h:a<4294967296):bin .and (i64 (a:Nat)) (i64 1)=some (i64 ((lowN a:Nat):Int)):=by
 rw[bin_and]
 change some (i64 (IntKind.i64.wrap ((BitVec.ofInt 64 (a:Int)&&&BitVec.ofInt 64 (1:Int)).toNat:Int)))=_
 rw[bv_nat,show BitVec.ofInt 64 (1:Int)=BitVec.ofNat 64 1 from rfl]
 have e:((BitVec.ofNat 64 a&&&BitVec.ofNat 64 1).toNat)=a%2:=by
  rw[BitVec.toNat_and,BitVec.toNat_ofNat,BitVec.toNat_ofNat,Nat.mod_eq_of_lt (by omega),show 1%2^64=1 from rfl,Nat.and_one_is_mod]
 rw[e,wrap_nat (by omega)];rfl
theorem bor {a b:Nat}(h:a<65536)(h2:b<65536):bin .or (i64 (a:Nat)) (i64 (b:Nat))=some (i64 ((orN a b:Nat):Int)):=by
 rw[bin_or]
 change some (i64 (IntKind.i64.wrap ((BitVec.ofInt 64 (a:Int)|||BitVec.ofInt 64 (b:Int)).toNat:Int)))=_
 rw[bv_nat,bv_nat]
 have e:((BitVec.ofNat 64 a|||BitVec.ofNat 64 b).toNat)=a|||b:=by
  rw[BitVec.toNat_or,BitVec.toNat_ofNat,BitVec.toNat_ofNat,Nat.mod_eq_of_lt (by omega),Nat.mod_eq_of_lt (by omega)]
 have:=Nat.or_lt_two_pow (n:=16) h h2
 rw[e,wrap_nat (by omega)];rfl
theorem bxor {a b:Nat}(h:a<65536)(h2:b<65536):bin .xor (i64 (a:Nat)) (i64 (b:Nat))=some (i64 ((xorN a b:Nat):Int)):=by
 rw[bin_xor]
 change some (i64 (IntKind.i64.wrap ((BitVec.ofInt 64 (a:Int)^^^BitVec.ofInt 64 (b:Int)).toNat:Int)))=_
 rw[bv_nat,bv_nat]
 have e:((BitVec.ofNat 64 a^^^BitVec.ofNat 64 b).toNat)=a^^^b:=by
  rw[BitVec.toNat_xor,BitVec.toNat_ofNat,BitVec.toNat_ofNat,Nat.mod_eq_of_lt (by omega),Nat.mod_eq_of_lt (by omega)]
 have:=Nat.xor_lt_two_pow (n:=16) h h2
 rw[e,wrap_nat (by omega)];rfl
theorem bshl {n:Nat}(hn:n<32):bin .shl (i64 1) (i64 (n:Nat))=some (i64 ((powN n:Nat):Int)):=by
 have h2: ¬(n:Int)<0:=by omega
 rw[bin_shl,if_neg h2,Int.toNat_natCast,show min n IntKind.i64.bits=n by have:IntKind.i64.bits=64:=rfl;omega]
 have:(2:Nat)^n<2^32:=Nat.pow_lt_pow_right (by decide) hn
 have e:((1:Int)*2^n)=((2^n:Nat):Int):=by push_cast;omega
 rw[e,wrap_nat (by omega)];rfl
theorem powN_lt {n:Nat}(hn:n<16):powN n<65536:=by unfold powN;exact Nat.pow_lt_pow_right (by decide) hn
def topN(g:Nat):Nat:=((List.range 6).find? fun n=>g>>>n==0).getD 6
def bitF(g:Nat)(a:List Int)(k:Nat):List Int:=if lowN (shrN g k)=1 then a ++[(k:Int)]else a
theorem top_le: ∀g,g<32→topN g≤5:=by decide +kernel
theorem top_pos: ∀g,g<32→ ∀k,k<topN g→0<shrN g k:=by
 intro g hg k hk
 have h5:=top_le g hg
 have: ∀g,g<32→ ∀k,k<5→k<topN g→0<shrN g k:=by decide +kernel
 exact this g hg k (by omega) hk
theorem top_end: ∀g,g<32→shrN g (topN g)=0:=by decide +kernel
theorem top_bits: ∀g,g<32→(List.range (topN g)).foldl (bitF g) []=bitsL g:=by decide +kernel
theorem low_le(a:Nat):lowN a<2:=Nat.mod_lt _ (by decide)
theorem shr_le(a n:Nat):shrN a n≤a:=by unfold shrN;rw[Nat.shiftRight_eq_div_pow];exact Nat.div_le_self ..
set_option maxHeartbeats 1000000 in
theorem e_list_l(g:Nat)(hg:g<32)(s:Stk):
 Run T b51l0 [(3, .sl (.own s.length 49) 1 []),(0,i64 (g:Nat)),(3, .sl .full 1 []),(4,i64 0)] ([(49, .tok 0)]::s)=
  some (.exit 0,[(0,i64 (g:Nat)),(3, .sl (.own s.length 49) 1 (es cInt (bitsL g))),(4,i64 (topN g:Nat)),(8, .bool false)],[(49, .tok (bitsL g).length)]::s):=by
 have h5:=top_le g hg
 have key:=loop_fold (T:=T) (live:=[0,3,4]) (keep:=[49]) (b:=d51l0) (List.range (topN g)) (fun k (a:List Int)=>a.length≤k) (bitF g)
  (fun k a=>[(0,i64 (g:Nat)),(3, .sl (.own s.length 49) 1 (es cInt a)),(4,i64 (k:Nat))]) (fun _ a=>[(49, .tok a.length)]::s)
  (fun a=>(.exit 0,[(0,i64 (g:Nat)),(3, .sl (.own s.length 49) 1 (es cInt a)),(4,i64 (topN g:Nat)),(8, .bool false)],[(49, .tok a.length)]::s))
  (by simp) ?_ ?_ ?_ [] (by simp) [(3, .sl (.own s.length 49) 1 []),(0,i64 (g:Nat)),(3, .sl .full 1 []),(4,i64 0)] ([(49, .tok 0)]::s) (by simp) (by simp)
 ·rw[top_bits g hg]at key
  exact key
 ·intro k a hk hi
  simp only[List.length_range]at hk
  simp only[List.getElem_range]
  have h3:=top_pos g hg k hk
  have e0:es cInt a ++[[i64 (k:Nat)]]=es cInt (a ++[(k:Int)]):=by simp[es]
  have hk9:k<64:=by omega
  have hs:=shr_le g k
  have hb1:=bshr (a:=g) (n:=k) hk9
  have hb2:=band (a:=shrN g k) (by omega)
  unfold bitF
  have hl:=low_le (shrN g k)
  generalize shrN g k=x at*
  generalize lowN x=y at*
  by_cases hy:y=1
  ·have hy':(y:Int)=1:=by omega
   rw[if_pos hy]
   simp (maxSteps:=1000000) (disch:=first|omega|assumption|decide +kernel|(simp;done)|(simp;omega)|fail) [hb1,hb2,h3,hy,hy',e0,appK_own1,wk k (by omega),-bin_shr,-bin_and]
  ·have hy': ¬(y:Int)=1:=by omega
   rw[if_neg hy]
   simp (maxSteps:=1000000) (disch:=first|omega|assumption|decide +kernel|(simp;done)|(simp;omega)|fail) [hb1,hb2,h3,hy,hy',wk k (by omega),-bin_shr,-bin_and]
 ·intro k a hk hi
  unfold bitF
  split<;>(try simp only[List.length_append,List.length_cons,List.length_nil])<;>omega
 ·intro a hi
  simp only[List.length_range]
  have h1:=bshr (a:=g) (n:=topN g) (by omega)
  rw[top_end g hg]at h1
  generalize topN g=n at*
  simp (maxSteps:=1000000) (disch:=first|omega|assumption|decide +kernel|(simp;done)|(simp;omega)|fail) [h1,-bin_shr]
theorem e_list(g:Nat)(hg:g<32)(lab s):den T 51 [i64 (g:Nat)] lab s=some (.sl .no 1 (es cInt (bitsL g)),s):=by
 have key:=e_list_l g hg s
 generalize bitsL g=L at*
 generalize topN g=n at*
 rw[den_fn t51 _ _ _ rfl]
 simp only[b51]
 simp (maxSteps:=1000000) (disch:=first|omega|assumption|decide +kernel|(simp;done)|(simp;omega)|fail) [key]
set_option maxHeartbeats 1000000 in
theorem e0_list_l(g:Nat)(hg:g<32)(s:Stk):
 Run T0 b51l0 [(3, .sl (.own s.length 49) 1 []),(0,i64 (g:Nat)),(3, .sl .full 1 []),(4,i64 0)] ([(49, .tok 0)]::s)=
  some (.exit 0,[(0,i64 (g:Nat)),(3, .sl (.own s.length 49) 1 (es cInt (bitsL g))),(4,i64 (topN g:Nat)),(8, .bool false)],[(49, .tok (bitsL g).length)]::s):=by
 have h5:=top_le g hg
 have key:=loop_fold (T:=T0) (live:=[0,3,4]) (keep:=[49]) (b:=d51l0) (List.range (topN g)) (fun k (a:List Int)=>a.length≤k) (bitF g)
  (fun k a=>[(0,i64 (g:Nat)),(3, .sl (.own s.length 49) 1 (es cInt a)),(4,i64 (k:Nat))]) (fun _ a=>[(49, .tok a.length)]::s)
  (fun a=>(.exit 0,[(0,i64 (g:Nat)),(3, .sl (.own s.length 49) 1 (es cInt a)),(4,i64 (topN g:Nat)),(8, .bool false)],[(49, .tok a.length)]::s))
  (by simp) ?_ ?_ ?_ [] (by simp) [(3, .sl (.own s.length 49) 1 []),(0,i64 (g:Nat)),(3, .sl .full 1 []),(4,i64 0)] ([(49, .tok 0)]::s) (by simp) (by simp)
 ·rw[top_bits g hg]at key
  exact key
 ·intro k a hk hi
  simp only[List.length_range]at hk
  simp only[List.getElem_range]
  have h3:=top_pos g hg k hk
  have e0:es cInt a ++[[i64 (k:Nat)]]=es cInt (a ++[(k:Int)]):=by simp[es]
  have hk9:k<64:=by omega
  have hs:=shr_le g k
  have hb1:=bshr (a:=g) (n:=k) hk9
  have hb2:=band (a:=shrN g k) (by omega)
  unfold bitF
  have hl:=low_le (shrN g k)
  generalize shrN g k=x at*
  generalize lowN x=y at*
  by_cases hy:y=1
  ·have hy':(y:Int)=1:=by omega
   rw[if_pos hy]
   simp (maxSteps:=1000000) (disch:=first|omega|assumption|decide +kernel|(simp;done)|(simp;omega)|fail) [hb1,hb2,h3,hy,hy',e0,appK_own1,wk k (by omega),-bin_shr,-bin_and]
  ·have hy': ¬(y:Int)=1:=by omega
   rw[if_neg hy]
   simp (maxSteps:=1000000) (disch:=first|omega|assumption|decide +kernel|(simp;done)|(simp;omega)|fail) [hb1,hb2,h3,hy,hy',wk k (by omega),-bin_shr,-bin_and]
 ·intro k a hk hi
  unfold bitF
  split<;>(try simp only[List.length_append,List.length_cons,List.length_nil])<;>omega
 ·intro a hi
  simp only[List.length_range]
  have h1:=bshr (a:=g) (n:=topN g) (by omega)
  rw[top_end g hg]at h1
  generalize topN g=n at*
  simp (maxSteps:=1000000) (disch:=first|omega|assumption|decide +kernel|(simp;done)|(simp;omega)|fail) [h1,-bin_shr]
theorem e0_list(g:Nat)(hg:g<32)(lab s):den T0 51 [i64 (g:Nat)] lab s=some (.sl .no 1 (es cInt (bitsL g)),s):=by
 have key:=e0_list_l g hg s
 generalize bitsL g=L at*
 generalize topN g=n at*
 rw[den_fn u51 _ _ _ rfl]
 simp only[b51]
 simp (maxSteps:=1000000) (disch:=first|omega|assumption|decide +kernel|(simp;done)|(simp;omega)|fail) [key]
end Go.Proofs.YtnglkclmplfnpaaGreat

/-
  Doors: both Checks.
-/
namespace Go.Proofs.YtnglkclmplfnpaaGreat
open Go.Ab
def gateOk(n:Int)(g:DGate):Bool:=wiB g.a 0 (n-1)&&(wiB g.b 0 (n-1)&& !decide (g.a=g.b))
def groupOk(n:Int)(g:DGroup):Bool:=wiB g.pos 0 (n-1)&&wiB g.fish 0 99
def doorBDd(t:DTrap):Bool:=wiB t.chambers 1 4&&(wiB t.turns 0 4&&(wiB t.hands 0 3&&(decide (t.gates.length≤5)&&(decide (t.groups.length≤3)&&(allB (gateOk t.chambers) t.gates&&allB (groupOk t.chambers) t.groups)))))
structure ShortD(t:DTrap):Prop where
 gates:t.gates.length<5864062014806
 groups:t.groups.length<8796093022209
theorem doorB_short {t:DTrap}(h:doorBDd t=true):ShortD t:=by
 simp only[doorBDd,Bool.and_eq_true,decide_eq_true_eq]at h
 exact⟨by omega,by omega⟩
structure DoorOk(t:DTrap):Prop where
 ch:1≤t.chambers∧t.chambers≤4
 tu:0≤t.turns∧t.turns≤4
 ha:0≤t.hands∧t.hands≤3
 gl:t.gates.length≤5
 ol:t.groups.length≤3
 gates: ∀g,g∈t.gates→(0≤g.a∧g.a≤t.chambers-1)∧(0≤g.b∧g.b≤t.chambers-1)∧g.a≠g.b
 groups: ∀g,g∈t.groups→(0≤g.pos∧g.pos≤t.chambers-1)∧(0≤g.fish∧g.fish≤99)
theorem doorB_iff {t:DTrap}:doorBDd t=true↔DoorOk t:=by
 simp only[doorBDd,Bool.and_eq_true,decide_eq_true_eq,wiB_iff,allB,List.all_eq_true,gateOk,groupOk,Bool.not_eq_true',decide_eq_false_iff_not]
 constructor
 ·rintro⟨h1,h2,h3,h4,h5,h6,h7⟩;exact⟨h1,h2,h3,h4,h5,h6,h7⟩
 ·rintro⟨h1,h2,h3,h4,h5,h6,h7⟩;exact⟨h1,h2,h3,h4,h5,h6,h7⟩
theorem e_Check1Dd(n:Int)(g:DGate)(d l:Nat)(s:Stk)(h:sget s d l=some (.cell [i64 (n-1)]))(hd: ¬d=s.length)(lab):
 den T 69 [.agg [i64 g.a,i64 g.b, .bool g.op], .ptr d l 0] lab s=some (.bool (!gateOk n g),s):=by
 unfold gateOk
 rw[den_fn t69 _ _ _ rfl]
 simp only[b69]
 cases c1:wiB g.a 0 (n-1)
 ·simp (maxSteps:=1000000) (disch:=first|omega|assumption|decide +kernel|(simp;done)|(simp;omega)|fail) [h,hd,c1]
 cases c2:wiB g.b 0 (n-1)
 ·simp (maxSteps:=1000000) (disch:=first|omega|assumption|decide +kernel|(simp;done)|(simp;omega)|fail) [h,hd,c1,c2]
 by_cases c3:g.a=g.b<;>simp (maxSteps:=1000000) (disch:=first|omega|assumption|decide +kernel|(simp;done)|(simp;omega)|fail) [h,hd,c1,c2,c3]
theorem e_Check2(n:Int)(g:DGroup)(d l:Nat)(s:Stk)(h:sget s d l=some (.cell [i64 (n-1)]))(hd: ¬d=s.length)(lab):
 den T 70 [.agg [i64 g.pos,i64 g.fish], .ptr d l 0] lab s=some (.bool (!groupOk n g),s):=by
 unfold groupOk
 rw[den_fn t70 _ _ _ rfl]
 simp only[b70]
 cases c1:wiB g.pos 0 (n-1)
 ·simp (maxSteps:=1000000) (disch:=first|omega|assumption|decide +kernel|(simp;done)|(simp;omega)|fail) [h,hd,c1]
 cases c2:wiB g.fish 0 99<;>simp (maxSteps:=1000000) (disch:=first|omega|assumption|decide +kernel|(simp;done)|(simp;omega)|fail) [h,hd,c1,c2]
theorem e_IndexGate_l(n:Int)(ws:List DGate)(d l:Nat)(s:Stk)(h:sget s d l=some (.cell [i64 (n-1)]))(hd:d<s.length)(hl:ws.length<4611686018427387904):
 ∃g:Nat,Run T b82l0 [(0, .sl .no 3 (es cGate ws)),(1, .fn 69 [] [.ptr d l 0]),(7,i64 ws.length),(8,i64 0)] ([]::s)=
  if allB (fun w=>gateOk n w) ws=true then some (.exit 0,[(0, .sl .no 3 (es cGate ws)),(1, .fn 69 [] [.ptr d l 0]),(7,i64 ws.length),(8,i64 ws.length),(9, .bool false)],[]::s)else some (.ret,[(4,i64 (g:Nat))],[]::s):=by
 have hd2: ¬d=s.length:=by omega
 have hd3: ¬d=s.length+1:=by omega
 have hc: ∀(w:DGate) lab,den T 69 [.agg [i64 w.a,i64 w.b, .bool w.op], .ptr d l 0] lab ([]::s)=some (.bool (!gateOk n w),[]::s):=fun w lab=>e_Check1Dd n w d l ([]::s) (by simp[hd2,h]) (by simp;omega) lab
 refine loop_all_g ws (fun w=>gateOk n w) (fun k=>[(0, .sl .no 3 (es cGate ws)),(1, .fn 69 [] [.ptr d l 0]),(7,i64 ws.length),(8,i64 k)]) (fun _=>[]::s) (fun g:Nat=>(.ret,[(4,i64 (g:Nat))],[]::s)) _ (by simp) (by simp[hd2]) ?_ (by simp) _ _ (by simp[hd2]) (by simp)
 intro k hk
 refine⟨k,?_⟩
 have hk2:(k:Int)<ws.length:=by omega
 have hc2:=fun lab=>hc ws[k] lab
 cases h2:gateOk n ws[k]
 ·simp (maxSteps:=1000000) (disch:=first|omega|assumption|decide +kernel|(simp;done)|(simp;omega)|fail) [hk,hk2,hc2,h2,hd2,hd3,wk k (by omega)]
 ·simp (maxSteps:=1000000) (disch:=first|omega|assumption|decide +kernel|(simp;done)|(simp;omega)|fail) [hk,hk2,hc2,h2,hd2,hd3,wk k (by omega)]
theorem e_ContainsGate(n:Int)(ws:List DGate)(d l:Nat)(s:Stk)(h:sget s d l=some (.cell [i64 (n-1)]))(hd:d<s.length)(hl:ws.length<4611686018427387904)(lab):
 den T 71 [.sl .no 3 (es cGate ws), .fn 69 [] [.ptr d l 0]] lab s=some (.bool (!allB (fun w=>gateOk n w) ws),s):=by
 have hd2: ¬d=s.length:=by omega
 have hd3: ¬d=s.length+1:=by omega
 have hi: ∃r:Int,(∀lab,den T 82 [.sl .no 3 (es cGate ws), .fn 69 [] [.ptr d l 0]] lab ([]::s)=some (i64 r,[]::s))∧(0≤r↔allB (fun w=>gateOk n w) ws=false):=by
  obtain⟨g,hg⟩:=e_IndexGate_l n ws d l ([]::s) (by simp[hd2,h]) (by simp;omega) hl
  refine⟨if allB (fun w=>gateOk n w) ws=true then -1 else g,?_,?_⟩
  rotate_left
  ·cases allB (fun w=>gateOk n w) ws<;>simp
  intro lab
  rw[den_fn t82 _ _ _ rfl]
  simp only[b82]
  cases h:allB (fun w=>gateOk n w) ws<;>simp (maxSteps:=1000000) (disch:=first|omega|assumption|decide +kernel|(simp;done)|(simp;omega)|fail) [hg,h,hd2,hd3]
 obtain⟨r,hr,hi⟩:=hi
 rw[den_fn t71 _ _ _ rfl]
 simp only[b71]
 by_cases h:0≤r
 ·simp (maxSteps:=1000000) (disch:=first|omega|assumption|decide +kernel|(simp;done)|(simp;omega)|fail) [hr,h,hi.1 h,hd2]
 ·have:allB (fun w=>gateOk n w) ws=true:=by cases hx:allB (fun w=>gateOk n w) ws;exact absurd (hi.2 hx) h;rfl
  simp (maxSteps:=1000000) (disch:=first|omega|assumption|decide +kernel|(simp;done)|(simp;omega)|fail) [hr,h,this,hd2]
theorem e_IndexGroup_l(n:Int)(ws:List DGroup)(d l:Nat)(s:Stk)(h:sget s d l=some (.cell [i64 (n-1)]))(hd:d<s.length)(hl:ws.length<4611686018427387904):
 ∃g:Nat,Run T b83l0 [(0, .sl .no 2 (es cGroup ws)),(1, .fn 70 [] [.ptr d l 0]),(7,i64 ws.length),(8,i64 0)] ([]::s)=
  if allB (fun w=>groupOk n w) ws=true then some (.exit 0,[(0, .sl .no 2 (es cGroup ws)),(1, .fn 70 [] [.ptr d l 0]),(7,i64 ws.length),(8,i64 ws.length),(9, .bool false)],[]::s)else some (.ret,[(4,i64 (g:Nat))],[]::s):=by
 have hd2: ¬d=s.length:=by omega
 have hd3: ¬d=s.length+1:=by omega
 have hc: ∀(w:DGroup) lab,den T 70 [.agg [i64 w.pos,i64 w.fish], .ptr d l 0] lab ([]::s)=some (.bool (!groupOk n w),[]::s):=fun w lab=>e_Check2 n w d l ([]::s) (by simp[hd2,h]) (by simp;omega) lab
 refine loop_all_g ws (fun w=>groupOk n w) (fun k=>[(0, .sl .no 2 (es cGroup ws)),(1, .fn 70 [] [.ptr d l 0]),(7,i64 ws.length),(8,i64 k)]) (fun _=>[]::s) (fun g:Nat=>(.ret,[(4,i64 (g:Nat))],[]::s)) _ (by simp) (by simp[hd2]) ?_ (by simp) _ _ (by simp[hd2]) (by simp)
 intro k hk
 refine⟨k,?_⟩
 have hk2:(k:Int)<ws.length:=by omega
 have hc2:=fun lab=>hc ws[k] lab
 cases h2:groupOk n ws[k]
 ·simp (maxSteps:=1000000) (disch:=first|omega|assumption|decide +kernel|(simp;done)|(simp;omega)|fail) [hk,hk2,hc2,h2,hd2,hd3,wk k (by omega)]
 ·simp (maxSteps:=1000000) (disch:=first|omega|assumption|decide +kernel|(simp;done)|(simp;omega)|fail) [hk,hk2,hc2,h2,hd2,hd3,wk k (by omega)]
theorem e_ContainsGroup(n:Int)(ws:List DGroup)(d l:Nat)(s:Stk)(h:sget s d l=some (.cell [i64 (n-1)]))(hd:d<s.length)(hl:ws.length<4611686018427387904)(lab):
 den T 72 [.sl .no 2 (es cGroup ws), .fn 70 [] [.ptr d l 0]] lab s=some (.bool (!allB (fun w=>groupOk n w) ws),s):=by
 have hd2: ¬d=s.length:=by omega
 have hd3: ¬d=s.length+1:=by omega
 have hi: ∃r:Int,(∀lab,den T 83 [.sl .no 2 (es cGroup ws), .fn 70 [] [.ptr d l 0]] lab ([]::s)=some (i64 r,[]::s))∧(0≤r↔allB (fun w=>groupOk n w) ws=false):=by
  obtain⟨g,hg⟩:=e_IndexGroup_l n ws d l ([]::s) (by simp[hd2,h]) (by simp;omega) hl
  refine⟨if allB (fun w=>groupOk n w) ws=true then -1 else g,?_,?_⟩
  rotate_left
  ·cases allB (fun w=>groupOk n w) ws<;>simp
  intro lab
  rw[den_fn t83 _ _ _ rfl]
  simp only[b83]
  cases h:allB (fun w=>groupOk n w) ws<;>simp (maxSteps:=1000000) (disch:=first|omega|assumption|decide +kernel|(simp;done)|(simp;omega)|fail) [hg,h,hd2,hd3]
 obtain⟨r,hr,hi⟩:=hi
 rw[den_fn t72 _ _ _ rfl]
 simp only[b72]
 by_cases h:0≤r
 ·simp (maxSteps:=1000000) (disch:=first|omega|assumption|decide +kernel|(simp;done)|(simp;omega)|fail) [hr,h,hi.1 h,hd2]
 ·have:allB (fun w=>groupOk n w) ws=true:=by cases hx:allB (fun w=>groupOk n w) ws;exact absurd (hi.2 hx) h;rfl
  simp (maxSteps:=1000000) (disch:=first|omega|assumption|decide +kernel|(simp;done)|(simp;omega)|fail) [hr,h,this,hd2]
set_option maxHeartbeats 1000000 in
theorem e_CheckD(t:DTrap)(hs:ShortD t)(lab s):den T 50 [.agg (dV t)] lab s=some (i64 (if doorBDd t=true then 0 else 30),s):=by
 have hg:=hs.gates
 have ho:=hs.groups
 rw[den_fn t50 _ _ _ rfl]
 simp only[b50]
 unfold doorBDd
 by_cases c0:1≤t.chambers∧t.chambers≤4
 rotate_left
 ·have c1:wiB t.chambers 1 4=false:=by cases h:wiB t.chambers 1 4;rfl;exact absurd (wiB_iff.1 h) c0
  simp (maxSteps:=1000000) (disch:=first|omega|assumption|decide +kernel|(simp;done)|(simp;omega)|fail) [c1]
 have c1:wiB t.chambers 1 4=true:=wiB_iff.2 c0
 have w1:IntKind.i64.wrap (t.chambers-1)=t.chambers-1:=wi _ (by omega) (by omega)
 cases c2:wiB t.turns 0 4
 ·simp (maxSteps:=1000000) (disch:=first|omega|assumption|decide +kernel|(simp;done)|(simp;omega)|fail) [c1,c2]
 cases c3:wiB t.hands 0 3
 ·simp (maxSteps:=1000000) (disch:=first|omega|assumption|decide +kernel|(simp;done)|(simp;omega)|fail) [c1,c2,c3]
 by_cases c4:t.gates.length≤5
 rotate_left
 ·have c4':(5:Int)<t.gates.length:=by omega
  simp (maxSteps:=1000000) (disch:=first|omega|assumption|decide +kernel|(simp;done)|(simp;omega)|fail) [c1,c2,c3,c4,c4',w1]
 have c4': ¬(5:Int)<t.gates.length:=by omega
 have h1:=fun(F:Ab.Loc) (hF:Loc.get F 48=some (.cell [i64 (t.chambers-1)])) lab=>e_ContainsGate t.chambers t.gates s.length 48 (F::s) (by simp[hF]) (by simp) (by omega) lab
 have h2:=fun(F:Ab.Loc) (hF:Loc.get F 48=some (.cell [i64 (t.chambers-1)])) lab=>e_ContainsGroup t.chambers t.groups s.length 48 (F::s) (by simp[hF]) (by simp) (by omega) lab
 cases c5:allB (fun w=>gateOk t.chambers w) t.gates
 ·rw[c5]at h1
  simp (maxSteps:=1000000) (disch:=first|omega|assumption|decide +kernel|(simp;done)|(simp;omega)|fail) [c1,c2,c3,c4,c4',w1,h1]
 rw[c5]at h1
 by_cases c6:t.groups.length≤3
 rotate_left
 ·have c6':(3:Int)<t.groups.length:=by omega
  simp (maxSteps:=1000000) (disch:=first|omega|assumption|decide +kernel|(simp;done)|(simp;omega)|fail) [c1,c2,c3,c4,c4',c6,c6',w1,h1]
 have c6': ¬(3:Int)<t.groups.length:=by omega
 cases c7:allB (fun w=>groupOk t.chambers w) t.groups<;>rw[c7]at h2<;>simp (maxSteps:=1000000) (disch:=first|omega|assumption|decide +kernel|(simp;done)|(simp;omega)|fail) [c1,c2,c3,c4,c4',c6,c6',w1,h1,h2]
theorem e_IsChamber(t:DTrap)(h:1≤t.chambers∧t.chambers≤4)(n:Int)(lab s):den T 25 [.agg (dV t),i64 n] lab s=some (.bool (wiB n 0 (t.chambers-1)),s):=by
 have w1:IntKind.i64.wrap (t.chambers-1)=t.chambers-1:=wi _ (by omega) (by omega)
 rw[den_fn t25 _ _ _ rfl]
 simp only[b25]
 simp (maxSteps:=1000000) (disch:=first|omega|assumption|decide +kernel|(simp;done)|(simp;omega)|fail) [w1]
theorem e_CheckR_l0(t:DTrap)(hs:ShortD t)(h:1≤t.chambers∧t.chambers≤4)(s:Stk):
 ∃g:Ab.Loc,Run T b5l0 [(1, .ptr s.length 16 0),(3,i64 0)] ([(16, .cell (dV t))]::s)=
  if allB (gateOk t.chambers) t.gates=true then some (.exit 0,[(1, .ptr s.length 16 0),(3,i64 t.gates.length),(39, .bool false)],[(16, .cell (dV t))]::s)else some (.ret,[(2,i64 30)],g::s):=by
 have hg:=hs.gates
 refine loop_all_g t.gates (gateOk t.chambers) (fun k=>[(1, .ptr s.length 16 0),(3,i64 k)]) (fun _=>[(16, .cell (dV t))]::s) (fun g:Ab.Loc=>(.ret,[(2,i64 30)],g::s)) _ (by simp) (by simp) ?_ (by simp) _ _ (by simp) (by simp)
 intro k hk
 have hk2:(k:Int)<t.gates.length:=by omega
 have hc:=fun n lab s=>e_IsChamber t h n lab s
 refine⟨[(16, .cell (dV t)),(64, .cell [i64 t.gates[k].a,i64 t.gates[k].b, .bool t.gates[k].op])],?_⟩
 unfold gateOk
 generalize hG:t.gates[k]=G at*
 cases c1:wiB G.a 0 (t.chambers-1)
 ·simp (maxSteps:=1000000) (disch:=first|omega|assumption|decide +kernel|(simp;done)|(simp;omega)|fail) [hk,hk2,hG,hc,c1]
 cases c2:wiB G.b 0 (t.chambers-1)
 ·simp (maxSteps:=1000000) (disch:=first|omega|assumption|decide +kernel|(simp;done)|(simp;omega)|fail) [hk,hk2,hG,hc,c1,c2]
 by_cases c3:G.a=G.b<;>simp (maxSteps:=1000000) (disch:=first|omega|assumption|decide +kernel|(simp;done)|(simp;omega)|fail) [hk,hk2,hG,hc,c1,c2,c3,wk k (by omega)]
end Go.Proofs.YtnglkclmplfnpaaGreat

/-
  Doors: the reference's Check; fish in the last chamber.
-/
namespace Go.Proofs.YtnglkclmplfnpaaGreat
open Go.Ab
theorem e_CheckR_l1(t:DTrap)(hs:ShortD t)(h:1≤t.chambers∧t.chambers≤4)(s:Stk):
 ∃g:Ab.Loc,Run T b5l1 [(1, .ptr s.length 16 0),(5,i64 0)] ([(16, .cell (dV t))]::s)=
  if allB (groupOk t.chambers) t.groups=true then some (.exit 2,[(1, .ptr s.length 16 0),(5,i64 t.groups.length),(70, .bool false)],[(16, .cell (dV t))]::s)else some (.ret,[(2,i64 30)],g::s):=by
 have hg:=hs.groups
 refine loop_all_g t.groups (groupOk t.chambers) (fun k=>[(1, .ptr s.length 16 0),(5,i64 k)]) (fun _=>[(16, .cell (dV t))]::s) (fun g:Ab.Loc=>(.ret,[(2,i64 30)],g::s)) _ (by simp) (by simp) ?_ (by simp) _ _ (by simp) (by simp)
 intro k hk
 have hk2:(k:Int)<t.groups.length:=by omega
 have hc:=fun n lab s=>e_IsChamber t h n lab s
 refine⟨[(16, .cell (dV t)),(96, .cell [i64 t.groups[k].pos,i64 t.groups[k].fish])],?_⟩
 unfold groupOk
 generalize hG:t.groups[k]=G at*
 cases c1:wiB G.pos 0 (t.chambers-1)
 ·simp (maxSteps:=1000000) (disch:=first|omega|assumption|decide +kernel|(simp;done)|(simp;omega)|fail) [hk,hk2,hG,hc,c1]
 cases c2:wiB G.fish 0 99
 ·simp (maxSteps:=1000000) (disch:=first|omega|assumption|decide +kernel|(simp;done)|(simp;omega)|fail) [hk,hk2,hG,hc,c1,c2]
 ·simp (maxSteps:=1000000) (disch:=first|omega|assumption|decide +kernel|(simp;done)|(simp;omega)|fail) [hk,hk2,hG,hc,c1,c2,wk k (by omega)]
set_option maxHeartbeats 1000000 in
theorem e_CheckR(t:DTrap)(hs:ShortD t)(lab s):den T 5 [.agg (dV t)] lab s=some (i64 (if doorBDd t=true then 0 else 30),s):=by
 have hg:=hs.gates
 have ho:=hs.groups
 rw[den_fn t5 _ _ _ rfl]
 simp only[b5]
 unfold doorBDd
 by_cases c0:1≤t.chambers∧t.chambers≤4
 rotate_left
 ·have c1:wiB t.chambers 1 4=false:=by cases h:wiB t.chambers 1 4;rfl;exact absurd (wiB_iff.1 h) c0
  simp (maxSteps:=1000000) (disch:=first|omega|assumption|decide +kernel|(simp;done)|(simp;omega)|fail) [c1]
 have c1:wiB t.chambers 1 4=true:=wiB_iff.2 c0
 cases c2:wiB t.turns 0 4
 ·simp (maxSteps:=1000000) (disch:=first|omega|assumption|decide +kernel|(simp;done)|(simp;omega)|fail) [c1,c2]
 cases c3:wiB t.hands 0 3
 ·simp (maxSteps:=1000000) (disch:=first|omega|assumption|decide +kernel|(simp;done)|(simp;omega)|fail) [c1,c2,c3]
 by_cases c4:t.gates.length≤5
 rotate_left
 ·have c4':(5:Int)<t.gates.length:=by omega
  simp (maxSteps:=1000000) (disch:=first|omega|assumption|decide +kernel|(simp;done)|(simp;omega)|fail) [c1,c2,c3,c4,c4']
 have c4': ¬(5:Int)<t.gates.length:=by omega
 by_cases c6:t.groups.length≤3
 rotate_left
 ·have c6':(3:Int)<t.groups.length:=by omega
  simp (maxSteps:=1000000) (disch:=first|omega|assumption|decide +kernel|(simp;done)|(simp;omega)|fail) [c1,c2,c3,c4,c4',c6,c6']
 have c6': ¬(3:Int)<t.groups.length:=by omega
 obtain⟨g,hl0⟩:=e_CheckR_l0 t hs c0 s
 obtain⟨g',hl1⟩:=e_CheckR_l1 t hs c0 s
 cases c5:allB (gateOk t.chambers) t.gates
 ·rw[c5]at hl0
  simp only[Bool.false_eq_true,if_false]at hl0
  simp (maxSteps:=1000000) (disch:=first|omega|assumption|decide +kernel|(simp;done)|(simp;omega)|fail) [c1,c2,c3,c4,c4',c6,c6',hl0]
 rw[c5]at hl0
 simp only[if_true]at hl0
 cases c7:allB (groupOk t.chambers) t.groups
 ·rw[c7]at hl1
  simp only[Bool.false_eq_true,if_false]at hl1
  simp (maxSteps:=1000000) (disch:=first|omega|assumption|decide +kernel|(simp;done)|(simp;omega)|fail) [c1,c2,c3,c4,c4',c6,c6',hl0,hl1]
 ·rw[c7]at hl1
  simp only[if_true]at hl1
  simp (maxSteps:=1000000) (disch:=first|omega|assumption|decide +kernel|(simp;done)|(simp;omega)|fail) [c1,c2,c3,c4,c4',c6,c6',hl0,hl1]
def isChangeB(h g:Int)(c:List Int):Bool:=decide ((c.length:Int)≤h)&&rising c 0 (g-1)
theorem e_IsChange(t:DTrap)(hs:ShortD t)(c:List Int)(hc:c.length<1000000000000)(lab s):den T 11 [.agg (dV t), .sl .no 1 (es cInt c)] lab s=some (.bool (isChangeB t.hands t.gates.length c),s):=by
 have hg:=hs.gates
 have w1:IntKind.i64.wrap ((t.gates.length:Int)-1)=(t.gates.length:Int)-1:=wi _ (by omega) (by omega)
 unfold isChangeB
 rw[den_fn t11 _ _ _ rfl]
 simp only[b11]
 by_cases h:(c.length:Int)≤t.hands<;>simp (maxSteps:=1000000) (disch:=first|omega|assumption|decide +kernel|(simp;done)|(simp;omega)|fail) [h,w1]
theorem isChange_mem {h g:Nat} {c:List Int}:isChangeB h g c=true↔c∈choicesS h g:=by
 simp only[isChangeB,Bool.and_eq_true,decide_eq_true_eq,rising_iff,mem_choices]
 constructor
 ·rintro⟨h1,h2,h3⟩;exact⟨by omega,h2,fun y hy=>by have:=h3 y hy;omega⟩
 ·rintro⟨h1,h2,h3⟩;exact⟨by omega,h2,fun y hy=>by have:=h3 y hy;omega⟩
def posL(t:DTrap):List Int:=t.groups.map (·.pos)
def fishL(t:DTrap):List Int:=t.groups.map (·.fish)
end Go.Proofs.YtnglkclmplfnpaaGreat

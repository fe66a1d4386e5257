/-
  Watch: types; helpers of the references (not built yet).
-/
import Derived.Test.YthghcainodgnkaaGreatPtab
import Derived.Test.YthghcainodgnkaaGreatAb7
import Derived.Test.YthghcainodgnkaaGreatEq1
set_option linter.unusedSimpArgs false
set_option linter.unusedVariables false
namespace Go.Proofs.YthghcainodgnkaaGreat
open Go.Ab
@[simp] theorem denV_fn(f first cap args lab s):denV T (.fn f first cap) args lab s=den T f (first ++args ++cap) lab s:=rfl
@[simp] theorem map_cInt(r:Ren)(l):(es cInt l).map (V.mapAll r)=es cInt l:=es_map _ _ (fun _=>by simp) _
@[simp] theorem strip_cInt(l):(es cInt l).map V.stripAll=es cInt l:=es_strip _ (fun _=>by simp) _
@[simp] theorem refs_cInt(own:Bool)(d:Nat)(l):(es cInt l).flatMap (V.refsAll own d)=[]:=es_refs _ _ _ (fun _=>by simp) _
@[simp] theorem elems_cInt(l):elemsOk (es cInt l) 1=true:=elemsOk_es _ _ (fun _=>by simp) _
@[simp] def cCSp(a:CSp):List V:=[i64 a.lo,i64 a.hi]
@[simp] theorem map_cCSp(r:Ren)(l):(es cCSp l).map (V.mapAll r)=es cCSp l:=es_map _ _ (fun _=>by simp) _
@[simp] theorem strip_cCSp(l):(es cCSp l).map V.stripAll=es cCSp l:=es_strip _ (fun _=>by simp) _
@[simp] theorem refs_cCSp(own:Bool)(d:Nat)(l):(es cCSp l).flatMap (V.refsAll own d)=[]:=es_refs _ _ _ (fun _=>by simp) _
@[simp] theorem elems_cCSp(l):elemsOk (es cCSp l) 2=true:=elemsOk_es _ _ (fun _=>by simp) _
@[simp] theorem CSp.eta(s:CSp):CSp.mk s.lo s.hi=s:=rfl
@[simp] def cWord(w:CWord):List V:=[i64 w.time,i64 w.chamber,i64 w.lo,i64 w.hi]
@[simp] theorem map_cWord(r:Ren)(l):(es cWord l).map (V.mapAll r)=es cWord l:=es_map _ _ (fun _=>by simp) _
@[simp] theorem strip_cWord(l):(es cWord l).map V.stripAll=es cWord l:=es_strip _ (fun _=>by simp) _
@[simp] theorem refs_cWord(own:Bool)(d:Nat)(l):(es cWord l).flatMap (V.refsAll own d)=[]:=es_refs _ _ _ (fun _=>by simp) _
@[simp] theorem elems_cWord(l):elemsOk (es cWord l) 4=true:=elemsOk_es _ _ (fun _=>by simp) _
@[simp] theorem CWord.eta(w:CWord):CWord.mk w.time w.chamber w.lo w.hi=w:=rfl
@[simp] def cInts(l:List Int):List V:=[.sl .no 1 (es cInt l)]
@[simp] theorem map_cInts(r:Ren)(h:r.c .no= .no)(l):(es cInts l).map (V.mapAll r)=es cInts l:=es_map _ _ (fun _=>by simp[h]) _
@[simp] theorem map_cInts_d(d keep l):(es cInts l).map (V.mapAll (dropR d keep))=es cInts l:=map_cInts _ rfl l
@[simp] theorem map_cInts_f(d k z e l):(es cInts l).map (V.mapAll (frzR d k z e))=es cInts l:=map_cInts _ rfl l
@[simp] theorem map_cInts_r(own d loc ls d' lab l):(es cInts l).map (V.mapAll (renR own d loc ls d' lab))=es cInts l:=map_cInts _ (by cases own<;>rfl) l
@[simp] theorem strip_cInts(l):(es cInts l).map V.stripAll=es cInts l:=es_strip _ (fun _=>by simp) _
@[simp] theorem refs_cInts(own:Bool)(d:Nat)(l):(es cInts l).flatMap (V.refsAll own d)=[]:=es_refs _ _ _ (fun _=>by cases own<;>simp[V.refs,Cap.refs]) _
@[simp] theorem elems_cInts(l):elemsOk (es cInts l) 1=true:=elemsOk_es _ _ (fun _=>by simp) _
@[simp] theorem CTrap.eta(t:CTrap):CTrap.mk t.chambers t.times t.opn t.words=t:=rfl
@[simp] theorem WBook.eta(b:WBook):WBook.mk b.trap b.drunk b.run b.sober=b:=rfl
@[simp] theorem e_Within(n lo hi:Int)(lab s):den T 47 [i64 n,i64 lo,i64 hi] lab s=some (.bool (wiB n lo hi),s):=by
 rw[den_fn t47 _ _ _ rfl]
 simp only[b47]
 by_cases h:lo≤n<;>simp[h,wiB]
@[simp] theorem e_withinC(n lo hi:Int)(lab s):den T 139 [i64 n,i64 lo,i64 hi] lab s=some (.bool (wiB n lo hi),s):=by
 rw[den_fn t139 _ _ _ rfl]
 simp only[b139]
 by_cases h:lo≤n<;>simp[h,wiB]
@[simp] theorem e_withinW(n lo hi:Int)(lab s):den T 82 [i64 n,i64 lo,i64 hi] lab s=some (.bool (wiB n lo hi),s):=by
 rw[den_fn t82 _ _ _ rfl]
 simp only[b82]
 by_cases h:lo≤n<;>simp[h,wiB]
@[simp] theorem e_within11(n lo hi:Int)(lab s):den T 96 [i64 n,i64 lo,i64 hi] lab s=some (.bool (wiB n lo hi),s):=by
 rw[den_fn t96 _ _ _ rfl]
 simp only[b96]
 simp
theorem e_In_l(l:List Int)(n:Int)(s:Stk)(hl:l.length<4611686018427387904):
 Run T b46l0 [(0, .sl .no 1 (es cInt l)),(1,i64 n),(5,i64 0)] ([]::s)=if anyB (fun x=>decide (x=n)) l=true then some (.ret,[(4, .bool true)],[]::s)else some (.exit 0,[(0, .sl .no 1 (es cInt l)),(1,i64 n),(5,i64 l.length),(9, .bool false)],[]::s):=by
 refine loop_any l (fun x=>decide (x=n)) (fun k=>[(0, .sl .no 1 (es cInt l)),(1,i64 n),(5,i64 k)]) (fun _=>[]::s) _ _ (by simp) (by simp) ?_ (by simp) _ _ (by simp) (by simp)
 intro k hk
 by_cases h:l[k]=n<;>simp[hk,h,wk k (by omega)]
@[simp] theorem e_In(l:List Int)(n:Int)(hl:l.length<4611686018427387904)(lab s):
 den T 46 [.sl .no 1 (es cInt l),i64 n] lab s=some (.bool (anyB (fun x=>decide (x=n)) l),s):=by
 rw[den_fn t46 _ _ _ rfl]
 simp only[b46]
 cases hx:anyB (fun x=>decide (x=n)) l<;>simp[e_In_l,hl,hx]
def risingAt(l:List Int)(lo hi:Int)(k:Nat):Bool:=wiB (l.getD k 0) lo hi&&(k==0||decide (l.getD (k-1) 0<l.getD k 0))
def rising(l:List Int)(lo hi:Int):Bool:=allB (risingAt l lo hi) (List.range l.length)
theorem e_Rising_l0(l:List Int)(lo hi:Int)(s:Stk)(hl:l.length<4611686018427387904):
 Run T b24l0 [(0, .sl .no 1 (es cInt l)),(1,i64 lo),(2,i64 hi),(7,i64 0)] ([]::s)=
  if rising l lo hi=true then some (.exit 0,[(0, .sl .no 1 (es cInt l)),(1,i64 lo),(2,i64 hi),(7,i64 l.length),(11, .bool false)],[]::s)
  else some (.ret,[(6, .bool false)],[]::s):=by
 refine loop_all (List.range l.length) (risingAt l lo hi) (fun k=>[(0, .sl .no 1 (es cInt l)),(1,i64 lo),(2,i64 hi),(7,i64 k)]) (fun _=>[]::s) _ _ (by simp) (by simp) ?_ (by simp) _ _ (by simp) (by simp)
 intro k hk
 simp only[List.length_range]at hk
 simp only[List.getElem_range]
 have hg:l.getD k 0=l[k]:=by simp[List.getD,hk]
 cases h0:wiB l[k] lo hi
 ·simp (disch:=first|omega|assumption|decide +kernel|(simp;done)|(simp;omega)|fail) [hk,h0,risingAt]
 by_cases h1:k=0
 ·subst h1
  simp (disch:=first|omega|assumption|decide +kernel|(simp;done)|(simp;omega)|fail) [hk,h0,risingAt,wi]
 have hk1:k-1<l.length:=by omega
 have h1p:0<k:=by omega
 have h1q:(1:Int)≤k:=by omega
 have hg1:l.getD (k-1) 0=l[k-1]:=by simp[List.getD,hk1]
 have hn:((k:Int)-1).toNat=k-1:=by omega
 by_cases h2:l[k-1]<l[k]
 ·have h3: ¬l[k]≤l[k-1]:=by omega
  simp (disch:=first|omega|assumption|decide +kernel|(simp;done)|(simp;omega)|fail) [hk,hk1,h0,h1,h1p,h1q,h2,h3,hn,risingAt,wi]
 ·have h3:l[k]≤l[k-1]:=by omega
  simp (disch:=first|omega|assumption|decide +kernel|(simp;done)|(simp;omega)|fail) [hk,hk1,h0,h1,h1p,h1q,h2,h3,hn,risingAt,wi]
@[simp] theorem e_Rising(l:List Int)(lo hi:Int)(hl:l.length<4611686018427387904)(lab s):
 den T 24 [.sl .no 1 (es cInt l),i64 lo,i64 hi] lab s=some (.bool (rising l lo hi),s):=by
 rw[den_fn t24 _ _ _ rfl]
 simp only[b24]
 cases h:rising l lo hi<;>simp[e_Rising_l0,hl,h]
theorem rising_mem {cut:List Int} {lo hi:Int}(h:rising cut lo hi=true) {k:Nat}(hk:k<cut.length):lo≤cut[k]∧cut[k]≤hi∧(0<k→cut.getD (k-1) 0<cut[k]):=by
 simp only[rising,allB,List.all_eq_true,List.mem_range]at h
 have:=h k hk
 have hg:cut.getD k 0=cut[k]:=by simp[List.getD,hk]
 simp only[risingAt,hg,Bool.and_eq_true,Bool.or_eq_true,wiB,decide_eq_true_eq,beq_iff_eq]at this
 refine⟨this.1.1,this.1.2,fun h0=> ?_⟩
 rcases this.2 with h|h
 ·omega
 ·exact h
theorem rising_iff {l:List Int} {lo hi:Int}:rising l lo hi=true↔l.Pairwise (· < ·)∧ ∀x∈l,lo≤x∧x≤hi:=by
 constructor
 ·intro hr
  refine⟨?_,fun x hx=> ?_⟩
  ·rw[List.pairwise_iff_getElem]
   intro i j hi hj hij
   induction j with
   |zero=>omega
   |succ j ih=>
     have h1:=(rising_mem hr hj).2.2 (by omega)
     have e:l.getD (j+1-1) 0=l[j]:=by simp[List.getD,show j<l.length by omega]
     rw[e]at h1
     by_cases e2:i=j
     ·subst e2;exact h1
     ·have:=ih (by omega) (by omega);omega
  ·obtain⟨k,hk,rfl⟩:=List.getElem_of_mem hx
   have:=rising_mem hr hk
   exact⟨this.1,this.2.1⟩
 ·rintro⟨h1,h2⟩
  rw[List.pairwise_iff_getElem]at h1
  simp only[rising,allB,List.all_eq_true,List.mem_range]
  intro k hk
  have hg:l.getD k 0=l[k]:=by simp[List.getD,hk]
  have:=h2 _ (List.getElem_mem hk)
  simp only[risingAt,hg,Bool.and_eq_true,Bool.or_eq_true,wiB,decide_eq_true_eq,beq_iff_eq]
  refine⟨this,?_⟩
  by_cases h0:k=0
  ·exact .inl h0
  ·right
   have hk1:k-1<l.length:=by omega
   have e:l.getD (k-1) 0=l[k-1]:=by simp[List.getD,hk1]
   rw[e];exact h1 (k-1) k hk1 hk (by omega)
theorem e_Index_l(l:List Int)(n:Int)(S:Stk)(hl:l.length<4611686018427387904):
 ∃g:Nat,Run T b152l0 [(0, .sl .no 1 (es cInt l)),(1,i64 n),(7,i64 l.length),(8,i64 0)] ([]::S)=
  if allB (fun x=> !decide (x=n)) l=true then some (.exit 0,[(0, .sl .no 1 (es cInt l)),(1,i64 n),(7,i64 l.length),(8,i64 l.length),(9, .bool false)],[]::S)else some (.ret,[(4,i64 (g:Nat))],[]::S):=by
 refine loop_all_g l (fun x=> !decide (x=n)) (fun k=>[(0, .sl .no 1 (es cInt l)),(1,i64 n),(7,i64 l.length),(8,i64 k)]) (fun _=>[]::S) (fun g:Nat=>(.ret,[(4,i64 (g:Nat))],[]::S)) _ (by simp) (by simp) ?_ (by simp) _ _ (by simp) (by simp)
 intro k hk
 refine⟨k,?_⟩
 by_cases h:l[k]=n
 ·have h':n=l[k]:=h.symm
  simp (disch:=first|omega|assumption|decide +kernel|(simp;done)|(simp;omega)|fail) [hk,h,wk k (by omega)]
 ·have h': ¬n=l[k]:=fun e=>h e.symm
  simp (disch:=first|omega|assumption|decide +kernel|(simp;done)|(simp;omega)|fail) [hk,h,h',wk k (by omega)]
@[simp] theorem e_Contains(l:List Int)(n:Int)(S:Stk)(hl:l.length<4611686018427387904)(lab):
 den T 125 [.sl .no 1 (es cInt l),i64 n] lab S=some (.bool (anyB (fun x=>decide (x=n)) l),S):=by
 have ha:anyB (fun x=>decide (x=n)) l= !allB (fun x=> !decide (x=n)) l:=by simp only[anyB,allB,List.not_all_eq_any_not,Bool.not_not]
 have hi: ∃r:Int,(∀lab S',S'=[]::S→den T 152 [.sl .no 1 (es cInt l),i64 n] lab S'=some (i64 r,S'))∧(0≤r↔anyB (fun x=>decide (x=n)) l=true):=by
  obtain⟨g,hg⟩:=e_Index_l l n ([]::S) hl
  rw[ha]
  refine⟨if allB (fun x=> !decide (x=n)) l=true then -1 else g,?_,?_⟩
  rotate_left
  ·cases allB (fun x=> !decide (x=n)) l<;>simp
  intro lab S' hS
  subst hS
  rw[den_fn t152 _ _ _ rfl]
  simp only[b152]
  cases h:allB (fun x=> !decide (x=n)) l<;>simp (disch:=first|omega|assumption|decide +kernel|(simp;done)|(simp;omega)|fail) [hg,h]
 obtain⟨r,hr,hi⟩:=hi
 have hr':=fun lab=>hr lab _ rfl
 rw[den_fn t125 _ _ _ rfl]
 simp only[b125]
 by_cases h:0≤r
 ·have:=hi.1 h
  simp (disch:=first|omega|assumption|decide +kernel|(simp;done)|(simp;omega)|fail) [hr',h,this]
 ·have:anyB (fun x=>decide (x=n)) l=false:=by cases hx:anyB (fun x=>decide (x=n)) l;rfl;exact absurd (hi.2 hx) h
  simp (disch:=first|omega|assumption|decide +kernel|(simp;done)|(simp;omega)|fail) [hr',h,this]
abbrev has(l:List Int)(n:Int):Bool:=anyB (fun x=>decide (x=n)) l
def sameL(a b:List Int):Bool:=decide (a.length=b.length)&&allB (fun k=>decide (a.getD k 0=b.getD k 0)) (List.range a.length)
theorem sameL_eq(a b:List Int):sameL a b=decide (a=b):=by
 rw[Bool.eq_iff_iff]
 simp only[sameL,Bool.and_eq_true,decide_eq_true_eq,allB,List.all_eq_true,List.mem_range]
 constructor
 ·rintro⟨h1,h2⟩
  refine List.ext_getElem h1 fun k hk hk2=> ?_
  have:=h2 k hk
  simpa [List.getD,hk,hk2]using this
 ·rintro rfl;exact⟨rfl,fun _ _=>rfl⟩
theorem e_Same_l(a b:List Int)(ha:a.length<4611686018427387904)(hb:b.length=a.length)(s:Stk):Run T b34l0 [(0, .sl .no 1 (es cInt a)),(1, .sl .no 1 (es cInt b)),(5,i64 0)] ([]::s)=
 if allB (fun k=>decide (a.getD k 0=b.getD k 0)) (List.range a.length)=true then some (.exit 0,[(0, .sl .no 1 (es cInt a)),(1, .sl .no 1 (es cInt b)),(5,i64 a.length),(14, .bool false)],[]::s)else some (.ret,[(4, .bool false)],[]::s):=by
 refine(loop_all (List.range a.length) (fun k=>decide (a.getD k 0=b.getD k 0)) (fun k=>[(0, .sl .no 1 (es cInt a)),(1, .sl .no 1 (es cInt b)),(5,i64 k)]) (fun _=>[]::s) (.ret,[(4, .bool false)],[]::s) (.exit 0,[(0, .sl .no 1 (es cInt a)),(1, .sl .no 1 (es cInt b)),(5,i64 a.length),(14, .bool false)],[]::s) (by simp) (by simp) ?_ (by simp) _ _ (by simp) (by simp)).trans rfl
 intro k hk
 have hk:k<a.length:=by simpa using hk
 have hk2:k<b.length:=by omega
 rw[List.getElem_range]
 have e0:a.getD k 0=a[k]:=by simp[List.getD,hk]
 have e1:b.getD k 0=b[k]:=by simp[List.getD,hk2]
 rw[e0,e1]
 by_cases h:a[k]=b[k]<;>simp (maxSteps:=1000000) (disch:=first|omega|assumption|decide +kernel|(simp;done)|(simp;omega)|fail) [hk,hk2,h,wk k (by omega)]
@[simp] theorem e_Same2(a b:List Int)(ha:a.length<4611686018427387904)(hb:b.length<4611686018427387904)(lab s):den T 34 [.sl .no 1 (es cInt a), .sl .no 1 (es cInt b)] lab s=some (.bool (decide (a=b)),s):=by
 rw[←sameL_eq]
 rw[den_fn t34 _ _ _ rfl]
 simp only[b34]
 by_cases h:a.length=b.length
 ·have hl:=e_Same_l a b ha h.symm
  have h':(a.length:Int)=b.length:=by omega
  cases h2:allB (fun k=>decide (a.getD k 0=b.getD k 0)) (List.range a.length)
  ·have e:sameL a b=false:=by unfold sameL;rw[h2];simp
   rw[e]
   simp only[h2]at hl
   simp (maxSteps:=1000000) (disch:=first|omega|assumption|decide +kernel|(simp;done)|(simp;omega)|fail) [h',hl]
  ·have e:sameL a b=true:=by unfold sameL;rw[h2];simp[h]
   rw[e]
   simp only[h2]at hl
   simp (maxSteps:=1000000) (disch:=first|omega|assumption|decide +kernel|(simp;done)|(simp;omega)|fail) [h',hl]
 ·have h': ¬(a.length:Int)=b.length:=by omega
  simp (maxSteps:=1000000) (disch:=first|omega|assumption|decide +kernel|(simp;done)|(simp;omega)|fail) [h,h',sameL]
end Go.Proofs.YthghcainodgnkaaGreat

/-
  Watch: the program's differences: node, limit (not built yet).
-/
namespace Go.Proofs.YthghcainodgnkaaGreat
open Go.Ab
def trapV(t:CTrap)(B:List Int):List V:=i64 t.chambers::i64 t.times:: .sl .no 1 (es cInts t.opn):: .sl .no 4 (es cWord t.words)::B.map i64
@[simp] theorem trapV_length(t B):(trapV t B).length=B.length+4:=by simp[trapV]
@[simp] theorem trapV_0(t B)(h:0<(trapV t B).length):(trapV t B)[0]=i64 t.chambers:=rfl
@[simp] theorem trapV_1(t B)(h:1<(trapV t B).length):(trapV t B)[1]=i64 t.times:=rfl
theorem trapV_get {t:CTrap} {B:List Int} {j:Nat}(h:j<B.length):(trapV t B)[4+j]? =some (i64 (B.getD j 0)):=by
 rw[show 4+j=j+1+1+1+1 by omega]
 simp[trapV,h,List.getD]
theorem trapV_set {t:CTrap} {B:List Int} {j:Nat} {x:Int}:(trapV t B).set (4+j) (i64 x)=trapV t (B.set j x):=by
 rw[show 4+j=j+1+1+1+1 by omega]
 simp[trapV,List.map_set]
@[simp] theorem trapV_map(r:Ren)(h:r.c .no= .no)(t B):V.mapAll r (trapV t B)=trapV t B:=by
 have: ∀l:List Int,V.mapAll r (l.map i64)=l.map i64:=fun l=>by
  induction l with
  |nil=>rfl
  |cons a l ih=>simp[V.mapAll,V.map,ih]
 simp[trapV,V.mapAll,V.map,h,this]
theorem e_node(t:CTrap)(B:List Int)(h:TrapOk t)(d l:Nat)(i c:Nat)(hi:i<t.T)(hc:c≤t.C)(s:Stk)(hd:d<s.length)(hs:sget s d l=some (.cell (trapV t B)))(lab):
 den T 116 [.ptr d l 0,i64 i,i64 c] lab s=some (i64 (nodeN t.C i c:Nat),s):=by
 have h1:=h.cc
 have h2:=h.tt
 have e1:t.C=t.chambers.toNat:=rfl
 have e2:t.T=t.times.toNat:=rfl
 have hd2: ¬d=s.length:=by omega
 have b1:i*t.C≤4*4:=Nat.mul_le_mul (by omega) (by omega)
 have b2:(i:Int)*t.chambers=((i*t.C:Nat):Int):=by rw[Int.natCast_mul];congr 1;omega
 have w1:IntKind.i64.wrap ((i:Int)*t.chambers)=(i:Int)*t.chambers:=wi _ (by omega) (by omega)
 have w2:IntKind.i64.wrap (1+(i:Int)*t.chambers)=1+(i:Int)*t.chambers:=wi _ (by omega) (by omega)
 have w3:IntKind.i64.wrap (1+(i:Int)*t.chambers+c)=1+(i:Int)*t.chambers+c:=wi _ (by omega) (by omega)
 unfold nodeN
 rw[den_fn t116 _ _ _ rfl]
 simp only[b116]
 by_cases e:c=t.C
 ·have e':(c:Int)=t.chambers:=by omega
  rw[if_pos e]
  simp (maxSteps:=1000000) (disch:=first|omega|assumption|decide +kernel|(simp;done)|(simp;omega)|fail) [hs,hd2,e']
 ·have e': ¬(c:Int)=t.chambers:=by omega
  have e3:((1+i*t.C+c:Nat):Int)=1+(i:Int)*t.chambers+c:=by rw[b2];omega
  rw[if_neg e,e3]
  simp (maxSteps:=1000000) (disch:=first|omega|assumption|decide +kernel|(simp;done)|(simp;omega)|fail) [hs,hd2,e',w1,w2,w3]
theorem put_twice: ∀(F:Ab.Loc) (l:Nat) (x y:Entry),Loc.put (Loc.put F l x) l y=Loc.put F l y
 |[],l,x,y=>by simp[Loc.put]
 |(k,z)::F,l,x,y=>by
   by_cases h:l=k
   ·subst h;simp[Loc.put]
   ·simp only[Loc.put,if_neg h,put_twice F l x y]
theorem put_self: ∀(F:Ab.Loc) (l:Nat) (x:Entry),Loc.get F l=some x→Loc.put F l x=F
 |[],l,x,h=>by simp[Loc.get]at h
 |(k,z)::F,l,x,h=>by
   by_cases e:l=k
   ·subst e;simp[Loc.get]at h;subst h;simp[Loc.put]
   ·simp only[Loc.get,if_neg e]at h
    simp only[Loc.put,if_neg e,put_self F l x h]
@[simp] theorem sput_twice: ∀(s:Stk) (d l:Nat) (x y:Entry),sput (sput s d l x) d l y=sput s d l y
 |[],_,_,_,_=>rfl
 |F::s,d,l,x,y=>by
   by_cases h:d=s.length
   ·simp[sput,h,put_twice]
   ·have:=sput_twice s d l x y
    simp[sput,h,this]
theorem sput_self: ∀(s:Stk) (d l:Nat) (x:Entry),sget s d l=some x→sput s d l x=s
 |[],_,_,_,h=>by simp[sget]at h
 |F::s,d,l,x,h=>by
   by_cases e:d=s.length
   ·simp only[sget,if_pos e]at h
    simp only[sput,if_pos e,put_self F l x h]
   ·simp only[sget,if_neg e]at h
    simp only[sput,if_neg e,sput_self s d l x h]
theorem cellK_trap {t:CTrap} {B:List Int}(h:B.length=441) {i k:Nat}(hi:i<21)(hk:k<21)(S:Stk):cellK none (4+i*21+k) S (some (.cell (trapV t B)))=some (i64 (gB B i k),S):=by
 have e:=trapV_get (t:=t) (B:=B) (j:=21*i+k) (by omega)
 rw[show 4+i*21+k=4+(21*i+k)by omega,cellK_cell,part_one,e];rfl
theorem fitK_trap {t:CTrap} {B:List Int}(h:B.length=441) {i k:Nat}(hi:i<21)(hk:k<21)(S:Stk)(d l:Nat)(x:Int):fitK 1 (4+i*21+k) S d l [i64 x] (trapV t B)=some (.undef,sput S d l (.cell (trapV t (B.set (21*i+k) x)))):=by
 have e:=trapV_set (t:=t) (B:=B) (j:=21*i+k) (x:=x)
 rw[show 4+i*21+k=4+(21*i+k)by omega,fitK_eq,if_pos ⟨rfl,by simp;omega,rfl⟩]
 have:setAll (trapV t B) (4+(21*i+k)) [i64 x]=(trapV t B).set (4+(21*i+k)) (i64 x):=by simp[setAll]
 rw[this,e]
theorem LimI.mag {f t m B i k A}(h:LimI f t m B 10000000000000000 i k A)(hB:MagB B 10000000000000000)(hm: -40≤m): ∀j l,j<21→l<21→ -60000000000000200≤gB A j l∧gB A j l≤1048576:=fun j l hj hl=>by
 have h1:=h.low hB.lo (by decide) hm j l hj hl
 have h2:=h.le j l hj hl
 have h3:=hB.hi j l hj hl
 refine⟨Int.le_trans ?_ h1,by omega⟩
 split<;>split<;>omega
set_option maxHeartbeats 1000000 in
theorem e_limit_l1(t:CTrap)(f g:Nat)(hf:f<21)(hg:g<21)(m:Int)(hm: -40≤m∧m≤40)(d l:Nat)(i:Nat)(hi0:i<21)(B0 B:List Int)(hM:MagB B0 10000000000000000)(hB0:LimI f g m B0 10000000000000000 i 0 B)(s:Stk)(hd: ¬d=s.length)(hd2:d<s.length):
 Run T b159l1 [(0, .ptr d l 4),(1,i64 f),(2,i64 g),(3,i64 m),(8,i64 i),(19,i64 i),(22,i64 0)] ([]::sput s d l (.cell (trapV t B)))=some (.exit 2,[(0, .ptr d l 4),(1,i64 f),(2,i64 g),(3,i64 m),(8,i64 i),(19,i64 i),(22,i64 ((List.range 21).length:Nat)),(23, .bool false)],[]::sput s d l (.cell (trapV t ((List.range 21).foldl (limS f g m i) B)))):=by
 have key:=loop_fold (T:=T) (live:=[0,1,2,3,8,19,22]) (keep:=[]) (b:=d159l1) (List.range 21) (fun k A=>LimI f g m B0 10000000000000000 i k A) (limS f g m i) (fun k (a:List Int)=>[(0, .ptr d l 4),(1,i64 f),(2,i64 g),(3,i64 m),(8,i64 i),(19,i64 i),(22,i64 (k:Nat))]) (fun k (a:List Int)=>[]::sput s d l (.cell (trapV t a))) (fun(a:List Int)=>(.exit 2,[(0, .ptr d l 4),(1,i64 f),(2,i64 g),(3,i64 m),(8,i64 i),(19,i64 i),(22,i64 ((List.range 21).length:Nat)),(23, .bool false)],[]::sput s d l (.cell (trapV t a)))) (by simp) ?_ ?_ ?_ B (hB0) [(0, .ptr d l 4),(1,i64 f),(2,i64 g),(3,i64 m),(8,i64 i),(19,i64 i),(22,i64 0)] ([]::sput s d l (.cell (trapV t B))) (by simp[hd]) (by simp[hd])
 ·exact key
 ·intro k a hk hi
  try simp only[List.length_range]at hk
  try simp only[List.getElem_range]
  have hmag:=hi.mag hM hm.1
  have b1:=hmag i k hi0 hk
  have b2:=hmag i f hi0 hf
  have b3:=hmag g k hg hk
  have w1:IntKind.i64.wrap (gB a i f+m)=gB a i f+m:=wi _ (by omega) (by omega)
  have w2:IntKind.i64.wrap (gB a i f+m+gB a g k)=gB a i f+m+gB a g k:=wi _ (by omega) (by omega)
  have g1:=fun S=>cellK_trap (t:=t) hi.len hi0 hk S
  have g2:=fun S=>cellK_trap (t:=t) hi.len hi0 hf S
  have g3:=fun S=>cellK_trap (t:=t) hi.len hg hk S
  have g4:=fun S d l x=>fitK_trap (t:=t) hi.len hi0 hk S d l x
  have hk2:(k:Int)<21:=by omega
  have hi2:(i:Int)<21:=by omega
  have hf2:(f:Int)<21:=by omega
  have hg2:(g:Int)<21:=by omega
  have hs:=fun x=>sget_put_same s l x hd2
  unfold limS
  generalize gB a i f=y at*
  generalize gB a g k=z at*
  generalize gB a i k=x at*
  simp (maxSteps:=1000000) (disch:=first|omega|assumption|decide +kernel|(simp;done)|(simp;omega)|fail) [run_drawnK,-cellK_cell,-fitK_eq,hs,hd,g1,g2,g3,g4,w1,w2,hk2,hi2,hf2,hg2,wk k (by omega)]
 ·intro k a hk hi
  try simp only[List.length_range]at hk
  try simp only[List.getElem_range]
  exact hi.step hf hg hi0 hk
 ·intro a hi
  simp
end Go.Proofs.YthghcainodgnkaaGreat

/-
  Watch: limit, is, word, clash, between (not built yet).
-/
namespace Go.Proofs.YthghcainodgnkaaGreat
open Go.Ab
set_option maxHeartbeats 1000000 in
theorem e_limit_l0(t:CTrap)(f g:Nat)(hf:f<21)(hg:g<21)(m:Int)(hm: -40≤m∧m≤40)(d l:Nat)(B:List Int)(hM:MagB B 10000000000000000)(s:Stk)(hd: ¬d=s.length)(hd2:d<s.length):
 Run T b159l0 [(0, .ptr d l 4),(1,i64 f),(2,i64 g),(3,i64 m),(19,i64 0)] ([]::sput s d l (.cell (trapV t B)))=some (.exit 0,[(0, .ptr d l 4),(1,i64 f),(2,i64 g),(3,i64 m),(19,i64 ((List.range 21).length:Nat)),(20, .bool false)],[]::sput s d l (.cell (trapV t ((List.range 21).foldl (limRow f g m) B)))):=by
 have key:=loop_fold (T:=T) (live:=[0,1,2,3,19]) (keep:=[]) (b:=d159l0) (List.range 21) (fun k A=>LimI f g m B 10000000000000000 k 0 A) (limRow f g m) (fun k (a:List Int)=>[(0, .ptr d l 4),(1,i64 f),(2,i64 g),(3,i64 m),(19,i64 (k:Nat))]) (fun k (a:List Int)=>[]::sput s d l (.cell (trapV t a))) (fun(a:List Int)=>(.exit 0,[(0, .ptr d l 4),(1,i64 f),(2,i64 g),(3,i64 m),(19,i64 ((List.range 21).length:Nat)),(20, .bool false)],[]::sput s d l (.cell (trapV t a)))) (by simp) ?_ ?_ ?_ B (LimI.start hM.len) [(0, .ptr d l 4),(1,i64 f),(2,i64 g),(3,i64 m),(19,i64 0)] ([]::sput s d l (.cell (trapV t B))) (by simp[hd]) (by simp[hd])
 ·exact key
 ·intro k a hk hi
  try simp only[List.length_range]at hk
  try simp only[List.getElem_range]
  have h:=e_limit_l1 t f g hf hg m hm d l k hk B a hM hi s hd hd2
  rw[show(List.range 21).foldl (limS f g m k) a=limRow f g m a k from rfl]at h
  simp only[List.length_range]at h
  have hk2:(k:Int)<21:=by omega
  simp (maxSteps:=1000000) (disch:=first|omega|assumption|decide +kernel|(simp;done)|(simp;omega)|fail) [hd,hk2,h,wk k (by omega)]
 ·intro k a hk hi
  try simp only[List.length_range]at hk
  try simp only[List.getElem_range]
  exact(hi.row hf hg hk 21 (Nat.le_refl _)).next
 ·intro a hi
  simp
theorem e_limit(t:CTrap)(f g:Nat)(hf:f<21)(hg:g<21)(m:Int)(hm: -40≤m∧m≤40)(d l:Nat)(B:List Int)(hM:MagB B 10000000000000000)(s:Stk)(hd2:d<s.length)(hs:sget s d l=some (.cell (trapV t B)))(lab):
 den T 159 [.ptr d l 4,i64 f,i64 g,i64 m] lab s=some (.tup [],sput s d l (.cell (trapV t (limL f g m B)))):=by
 have hd: ¬d=s.length:=by omega
 have h:=e_limit_l0 t f g hf hg m hm d l B hM s hd hd2
 simp only[List.length_range]at h
 have g1:=fun S=>cellK_trap (t:=t) hM.len hf hg S
 have hf2:(f:Int)<21:=by omega
 have hg2:(g:Int)<21:=by omega
 have hself:=sput_self s d l _ hs
 rw[hself]at h
 rw[den_fn t159 _ _ _ rfl]
 simp only[b159]
 unfold limL
 generalize gB B f g=x at*
 by_cases hx:x≤m
 ·rw[if_pos hx]
  simp (maxSteps:=1000000) (disch:=first|omega|assumption|decide +kernel|(simp;done)|(simp;omega)|fail) [-cellK_cell,hs,hd,g1,hf2,hg2,hx,hself]
 ·rw[if_neg hx]
  have hx2:m<x:=by omega
  simp (maxSteps:=1000000) (disch:=first|omega|assumption|decide +kernel|(simp;done)|(simp;omega)|fail) [-cellK_cell,hs,hd,g1,hf2,hg2,hx,hx2,h]
theorem e_is(t:CTrap)(f g:Nat)(hf:f<21)(hg:g<21)(lo hi:Int)(hb:0≤lo∧lo≤hi∧hi≤40)(d l:Nat)(B:List Int)(hM:MagB B 10000000000000000)(hM2:MagB (limL f g hi B) 10000000000000000)(s:Stk)(hd2:d<s.length)(hs:sget s d l=some (.cell (trapV t B)))(lab):
 den T 174 [.ptr d l 4,i64 f,i64 g, .agg [i64 lo,i64 hi]] lab s=some (.tup [],sput s d l (.cell (trapV t (limL g f (-lo) (limL f g hi B))))):=by
 have hd: ¬d=s.length:=by omega
 have h1:=fun(F:Ab.Loc) lab=>e_limit t f g hf hg hi (by omega) d l B hM (F::s) (by simp;omega) (by rw[sget_cons,if_neg hd];exact hs) lab
 have h2:=fun(F:Ab.Loc) lab=>e_limit t g f hg hf (-lo) (by omega) d l (limL f g hi B) hM2 (F::sput s d l (.cell (trapV t (limL f g hi B)))) (by simp;omega) (by rw[sget_cons,sput_length,if_neg hd];exact sget_put_same s l _ hd2) lab
 have w:IntKind.i64.wrap (-lo)= -lo:=wi _ (by omega) (by omega)
 rw[den_fn t174 _ _ _ rfl]
 simp only[b174]
 generalize limL f g hi B=B1 at*
 generalize limL g f (-lo) B1=B2 at*
 simp[hd]at h1 h2
 simp (maxSteps:=1000000) (disch:=first|omega|assumption|decide +kernel|(simp;done)|(simp;omega)|fail) [hd,h1,h2,w]
theorem e_clash(t:CTrap)(d l:Nat)(B:List Int)(hB:B.length=441)(s:Stk)(hd2:d<s.length)(hs:sget s d l=some (.cell (trapV t B)))(lab):
 den T 148 [.ptr d l 4] lab s=some (.bool (clashB B),s):=by
 have hd: ¬d=s.length:=by omega
 have hl:Run T b148l0 [(0, .ptr d l 4),(4,i64 0)] ([]::s)=if anyB (fun i=>decide (gB B i i<0)) (List.range 21)=true then some (.ret,[(2, .bool true)],[]::s)else some (.exit 0,[(0, .ptr d l 4),(4,i64 21),(5, .bool false)],[]::s):=by
  refine(loop_any (List.range 21) (fun i=>decide (gB B i i<0)) (fun k=>[(0, .ptr d l 4),(4,i64 k)]) (fun _=>[]::s) (.ret,[(2, .bool true)],[]::s) (.exit 0,[(0, .ptr d l 4),(4,i64 ((List.range 21).length:Nat)),(5, .bool false)],[]::s) (by simp) (by simp) ?_ (by simp) _ _ (by simp[hd]) (by simp)).trans (by simp)
  intro k hk
  simp only[List.length_range]at hk
  simp only[List.getElem_range]
  have g1:=fun S=>cellK_trap (t:=t) hB hk hk S
  have hk2:(k:Int)<21:=by omega
  generalize gB B k k=x at*
  by_cases hx:x<0<;>simp (maxSteps:=1000000) (disch:=first|omega|assumption|decide +kernel|(simp;done)|(simp;omega)|fail) [-cellK_cell,hs,hd,g1,hk2,hx,wk k (by omega)]
 rw[den_fn t148 _ _ _ rfl]
 simp only[b148]
 have e:clashB B=anyB (fun i=>decide (gB B i i<0)) (List.range 21):=rfl
 rw[e]
 cases h:anyB (fun i=>decide (gB B i i<0)) (List.range 21)
 ·rw[h]at hl
  simp only[Bool.false_eq_true,if_false]at hl
  simp (maxSteps:=1000000) (disch:=first|omega|assumption|decide +kernel|(simp;done)|(simp;omega)|fail) [hl]
 ·rw[h]at hl
  simp only[if_true]at hl
  simp (maxSteps:=1000000) (disch:=first|omega|assumption|decide +kernel|(simp;done)|(simp;omega)|fail) [hl]
theorem e_betw(t:CTrap)(f g:Nat)(hf:f<21)(hg:g<21)(d l:Nat)(B:List Int)(hM:MagB B 10000000000000000)(s:Stk)(hd2:d<s.length)(hs:sget s d l=some (.cell (trapV t B)))(lab):
 den T 115 [.ptr d l 4,i64 f,i64 g] lab s=some (.agg [i64 (betwS B f g).lo,i64 (betwS B f g).hi],s):=by
 have hd: ¬d=s.length:=by omega
 have g1:=fun S=>cellK_trap (t:=t) hM.len hf hg S
 have g2:=fun S=>cellK_trap (t:=t) hM.len hg hf S
 have b1:=hM.lo g f hg hf
 have b2:=hM.hi g f hg hf
 have w:IntKind.i64.wrap (-gB B g f)= -gB B g f:=wi _ (by omega) (by omega)
 have hf2:(f:Int)<21:=by omega
 have hg2:(g:Int)<21:=by omega
 rw[den_fn t115 _ _ _ rfl]
 simp only[b115]
 unfold betwS
 generalize gB B f g=x at*
 generalize gB B g f=y at*
 simp (maxSteps:=1000000) (disch:=first|omega|assumption|decide +kernel|(simp;done)|(simp;omega)|fail) [run_drawnK,-cellK_cell,hs,hd,g1,g2,hf2,hg2,w]
end Go.Proofs.YthghcainodgnkaaGreat

/-
  Watch: a trap made ready (not built yet).
-/
namespace Go.Proofs.YthghcainodgnkaaGreat
open Go.Ab
@[simp] theorem trapV_d(d keep t B):V.mapAll (dropR d keep) (trapV t B)=trapV t B:=trapV_map _ rfl t B
@[simp] theorem trapV_f(d k z e t B):V.mapAll (frzR d k z e) (trapV t B)=trapV t B:=trapV_map _ rfl t B
@[simp] theorem trapV_r(own d loc ls d' lab t B):V.mapAll (renR own d loc ls d' lab) (trapV t B)=trapV t B:=trapV_map _ (by cases own<;>rfl) t B
@[simp] theorem trapV_refs(own:Bool)(d t B):V.refsAll own d (trapV t B)=[]:=by
 have: ∀l:List Int,V.refsAll own d (l.map i64)=[]:=fun l=>by
  induction l with
  |nil=>rfl
  |cons a l ih=>simp[V.refsAll,V.refs,ih]
 cases own<;>simp[trapV,V.refsAll,V.refs,Cap.refs,this]
@[simp] theorem trapV_strip(t B):V.stripAll (trapV t B)=trapV t B:=by
 have: ∀l:List Int,V.stripAll (l.map i64)=l.map i64:=fun l=>by
  induction l with
  |nil=>rfl
  |cons a l ih=>simp[V.stripAll,V.strip,ih]
 simp[trapV,V.stripAll,V.strip,this]
theorem e_word(t:CTrap)(h:TrapOk t)(d l:Nat)(B:List Int)(hM:MagB B 10000000000000000)(w:CWord)(hw:w∈t.words)(hM2:MagB (limL (nodeN t.C w.time.toNat (w.chamber.toNat+1)) (nodeN t.C w.time.toNat w.chamber.toNat) w.hi B) 10000000000000000)(s:Stk)(hd2:d<s.length)(hs:sget s d l=some (.cell (trapV t B)))(lab):
 den T 160 [.ptr d l 0, .agg [i64 w.time,i64 w.chamber,i64 w.lo,i64 w.hi]] lab s=some (.tup [],sput s d l (.cell (trapV t ((limsW t.C w).foldl limF B)))):=by
 have hd: ¬d=s.length:=by omega
 have hb:=wordOk_iff.1 (h.word w hw)
 obtain⟨k1,k2⟩:=word_in h hw
 have et:((w.time.toNat:Nat):Int)=w.time:=by omega
 have ec:((w.chamber.toNat:Nat):Int)=w.chamber:=by omega
 have ec2:((w.chamber.toNat+1:Nat):Int)=w.chamber+1:=by omega
 have n1:=fun(F:Ab.Loc) lab=>e_node t B h d l w.time.toNat w.chamber.toNat k1 (Nat.le_of_lt k2) (F::s) (by simp;omega) (by rw[sget_cons,if_neg hd];exact hs) lab
 have n2:=fun(F:Ab.Loc) lab=>e_node t B h d l w.time.toNat (w.chamber.toNat+1) k1 (show w.chamber.toNat+1≤t.C from k2) (F::s) (by simp;omega) (by rw[sget_cons,if_neg hd];exact hs) lab
 rw[et,ec]at n1
 rw[et,ec2]at n2
 have hi:=fun(F:Ab.Loc) lab=>e_is t (nodeN t.C w.time.toNat (w.chamber.toNat+1)) (nodeN t.C w.time.toNat w.chamber.toNat) (node_lt h k1 k2) (node_lt h k1 (Nat.le_of_lt k2)) w.lo w.hi (by omega) d l B hM hM2 (F::s) (by simp;omega) (by rw[sget_cons,if_neg hd];exact hs) lab
 have w1:IntKind.i64.wrap (w.chamber+1)=w.chamber+1:=wi _ (by have:=h.cc;omega) (by have:=h.cc;omega)
 have ef:(limsW t.C w).foldl limF B=limL (nodeN t.C w.time.toNat w.chamber.toNat) (nodeN t.C w.time.toNat (w.chamber.toNat+1)) (-w.lo) (limL (nodeN t.C w.time.toNat (w.chamber.toNat+1)) (nodeN t.C w.time.toNat w.chamber.toNat) w.hi B):=rfl
 rw[ef]
 generalize limL (nodeN t.C w.time.toNat w.chamber.toNat) (nodeN t.C w.time.toNat (w.chamber.toNat+1)) (-w.lo) (limL (nodeN t.C w.time.toNat (w.chamber.toNat+1)) (nodeN t.C w.time.toNat w.chamber.toNat) w.hi B)=B2 at*
 generalize nodeN t.C w.time.toNat w.chamber.toNat=y at*
 generalize nodeN t.C w.time.toNat (w.chamber.toNat+1)=z at*
 obtain⟨t0,t1,t2,t3⟩:=w
 dsimp only at*
 simp[hd]at hi
 rw[den_fn t160 _ _ _ rfl]
 simp only[b160]
 simp (maxSteps:=1000000) (disch:=first|omega|assumption|decide +kernel|(simp;done)|(simp;omega)|fail) [run_drawnK,hd,n1,n2,hi,w1]
def fillS(i:Nat)(B:List Int)(k:Nat):List Int:=if i≠k then B.set (21*i+k) 1048576 else B
def fillRow(B:List Int)(i:Nat):List Int:=(List.range 21).foldl (fillS i) B
theorem fill_len(i:Nat): ∀(l:List Nat) (B:List Int),(l.foldl (fillS i) B).length=B.length
 |[],_=>rfl
 |k::l,B=>by rw[List.foldl_cons,fill_len i l];unfold fillS;split<;>simp
def zeroB:List Int:=List.replicate 441 0
@[simp] theorem zeroB_length:zeroB.length=441:=List.length_replicate
theorem fill_all:(List.range 21).foldl fillRow zeroB=b0L:=by decide +kernel
theorem e_set_l1(t:CTrap)(i:Nat)(hi0:i<21)(B:List Int)(hB:B.length=441)(s:Stk):
 Run T b147l1 [(1,i64 (-1)),(2, .ptr s.length 32 0),(5, .ptr s.length 256 0),(6,i64 i),(17,i64 i),(20,i64 0)] ([(32, .cell [i64 t.chambers,i64 t.times, .sl .no 1 (es cInts t.opn), .sl .no 4 (es cWord t.words)]),(256, .cell (trapV t B))]::s)=some (.exit 2,[(1,i64 (-1)),(2, .ptr s.length 32 0),(5, .ptr s.length 256 0),(6,i64 i),(17,i64 i),(20,i64 ((List.range 21).length:Nat)),(21, .bool false)],[(32, .cell [i64 t.chambers,i64 t.times, .sl .no 1 (es cInts t.opn), .sl .no 4 (es cWord t.words)]),(256, .cell (trapV t ((List.range 21).foldl (fillS i) B)))]::s):=by
 have key:=loop_fold (T:=T) (live:=[1,2,5,6,17,20]) (keep:=[32,208,256,720,736,928,1008,1024,1136,1200,1296,1424,1536,1792]) (b:=d147l1) (List.range 21) (fun _ A=>A.length=441) (fillS i) (fun k (a:List Int)=>[(1,i64 (-1)),(2, .ptr s.length 32 0),(5, .ptr s.length 256 0),(6,i64 i),(17,i64 i),(20,i64 (k:Nat))]) (fun k (a:List Int)=>[(32, .cell [i64 t.chambers,i64 t.times, .sl .no 1 (es cInts t.opn), .sl .no 4 (es cWord t.words)]),(256, .cell (trapV t a))]::s) (fun(a:List Int)=>(.exit 2,[(1,i64 (-1)),(2, .ptr s.length 32 0),(5, .ptr s.length 256 0),(6,i64 i),(17,i64 i),(20,i64 ((List.range 21).length:Nat)),(21, .bool false)],[(32, .cell [i64 t.chambers,i64 t.times, .sl .no 1 (es cInts t.opn), .sl .no 4 (es cWord t.words)]),(256, .cell (trapV t a))]::s)) (by simp) ?_ ?_ ?_ B (hB) [(1,i64 (-1)),(2, .ptr s.length 32 0),(5, .ptr s.length 256 0),(6,i64 i),(17,i64 i),(20,i64 0)] ([(32, .cell [i64 t.chambers,i64 t.times, .sl .no 1 (es cInts t.opn), .sl .no 4 (es cWord t.words)]),(256, .cell (trapV t B))]::s) (by simp) (by simp)
 ·exact key
 ·intro k a hk hi
  try simp only[List.length_range]at hk
  try simp only[List.getElem_range]
  have g4:=fun S d l x=>fitK_trap (t:=t) hi hi0 hk S d l x
  have hk2:(k:Int)<21:=by omega
  have hi2:(i:Int)<21:=by omega
  unfold fillS
  by_cases e:i=k
  ·subst e
   simp (maxSteps:=1000000) (disch:=first|omega|assumption|decide +kernel|(simp;done)|(simp;omega)|fail) [-fitK_eq,g4,hk2,wk i (by omega)]
  ·have e2: ¬(i:Int)=k:=by omega
   simp (maxSteps:=1000000) (disch:=first|omega|assumption|decide +kernel|(simp;done)|(simp;omega)|fail) [-fitK_eq,g4,hk2,hi2,e,e2,wk k (by omega)]
 ·intro k a hk hi
  try simp only[List.length_range]at hk
  try simp only[List.getElem_range]
  unfold fillS;split<;>simp[hi]
 ·intro a hi
  simp
theorem e_set_l0(t:CTrap)(s:Stk):
 Run T b147l0 [(1,i64 (-1)),(2, .ptr s.length 32 0),(5, .ptr s.length 256 0),(17,i64 0)] ([(32, .cell [i64 t.chambers,i64 t.times, .sl .no 1 (es cInts t.opn), .sl .no 4 (es cWord t.words)]),(256, .cell (trapV t zeroB))]::s)=some (.exit 0,[(1,i64 (-1)),(2, .ptr s.length 32 0),(5, .ptr s.length 256 0),(17,i64 ((List.range 21).length:Nat)),(18, .bool false)],[(32, .cell [i64 t.chambers,i64 t.times, .sl .no 1 (es cInts t.opn), .sl .no 4 (es cWord t.words)]),(256, .cell (trapV t ((List.range 21).foldl (fillRow) zeroB)))]::s):=by
 have key:=loop_fold (T:=T) (live:=[1,2,5,17]) (keep:=[32,208,256,720,736,928,1008,1024,1136,1200,1296,1424,1536,1792]) (b:=d147l0) (List.range 21) (fun _ A=>A.length=441) (fillRow) (fun k (a:List Int)=>[(1,i64 (-1)),(2, .ptr s.length 32 0),(5, .ptr s.length 256 0),(17,i64 (k:Nat))]) (fun k (a:List Int)=>[(32, .cell [i64 t.chambers,i64 t.times, .sl .no 1 (es cInts t.opn), .sl .no 4 (es cWord t.words)]),(256, .cell (trapV t a))]::s) (fun(a:List Int)=>(.exit 0,[(1,i64 (-1)),(2, .ptr s.length 32 0),(5, .ptr s.length 256 0),(17,i64 ((List.range 21).length:Nat)),(18, .bool false)],[(32, .cell [i64 t.chambers,i64 t.times, .sl .no 1 (es cInts t.opn), .sl .no 4 (es cWord t.words)]),(256, .cell (trapV t a))]::s)) (by simp) ?_ ?_ ?_ zeroB (by simp) [(1,i64 (-1)),(2, .ptr s.length 32 0),(5, .ptr s.length 256 0),(17,i64 0)] ([(32, .cell [i64 t.chambers,i64 t.times, .sl .no 1 (es cInts t.opn), .sl .no 4 (es cWord t.words)]),(256, .cell (trapV t zeroB))]::s) (by simp) (by simp)
 ·exact key
 ·intro k a hk hi
  try simp only[List.length_range]at hk
  try simp only[List.getElem_range]
  have hk2:(k:Int)<21:=by omega
  have h:=e_set_l1 t k hk a hi s
  rw[show(List.range 21).foldl (fillS k) a=fillRow a k from rfl]at h
  simp only[List.length_range]at h
  simp (maxSteps:=1000000) (disch:=first|omega|assumption|decide +kernel|(simp;done)|(simp;omega)|fail) [hk2,h,wk k (by omega)]
 ·intro k a hk hi
  try simp only[List.length_range]at hk
  try simp only[List.getElem_range]
  unfold fillRow;rw[fill_len];exact hi
 ·intro a hi
  simp
end Go.Proofs.YthghcainodgnkaaGreat

/-
  Watch: a trap made ready: doors, words (not built yet).
-/
namespace Go.Proofs.YthghcainodgnkaaGreat
open Go.Ab
theorem doorB_has(t:CTrap) {i:Nat}(hi:i<t.opn.length)(c:Nat):doorB t i c=has t.opn[i] c:=by simp[doorB,anyB,List.getD,hi]
theorem e_nodeI(t:CTrap)(B:List Int)(h:TrapOk t)(d l:Nat)(i c:Nat)(hi:i<t.T)(hc:c≤t.C)(iv cv:Int)(h1:iv=(i:Int))(h2:cv=(c:Int))(s:Stk)(hd:d<s.length)(hs:sget s d l=some (.cell (trapV t B)))(lab):
 den T 116 [.ptr d l 0,i64 iv,i64 cv] lab s=some (i64 (nodeN t.C i c:Nat),s):=by subst h1;subst h2;exact e_node t B h d l i c hi hc s hd hs lab
set_option maxHeartbeats 4000000 in
theorem e_set_l3(t:CTrap)(h:TrapOk t)(hop: ∀l,l∈t.opn→l.length<4611686018427387904)(i:Nat)(hi0:i<t.T)(B:List Int)(hB:DoorB B)(s:Stk):
 Run T b147l3 [(1,i64 (-1)),(2, .ptr s.length 32 0),(5, .ptr s.length 256 0),(8,i64 i),(36,i64 t.times),(37,i64 i),(48,i64 t.chambers),(49,i64 0)] ([(32, .cell [i64 t.chambers,i64 t.times, .sl .no 1 (es cInts t.opn), .sl .no 4 (es cWord t.words)]),(256, .cell (trapV t B))]::s)=some (.exit 6,[(1,i64 (-1)),(2, .ptr s.length 32 0),(5, .ptr s.length 256 0),(8,i64 i),(36,i64 t.times),(37,i64 i),(48,i64 t.chambers),(49,i64 ((List.range t.C).length:Nat)),(50, .bool false)],[(32, .cell [i64 t.chambers,i64 t.times, .sl .no 1 (es cInts t.opn), .sl .no 4 (es cWord t.words)]),(256, .cell (trapV t ((List.range t.C).foldl (fun A c=>(limsC t i c).foldl limF A) B)))]::s):=by
 have key:=loop_fold (T:=T) (live:=[1,2,5,8,36,37,48,49]) (keep:=[32,208,256,720,736,1792]) (b:=d147l3) (List.range t.C) (fun _ A=>DoorB A) (fun A c=>(limsC t i c).foldl limF A) (fun k (a:List Int)=>[(1,i64 (-1)),(2, .ptr s.length 32 0),(5, .ptr s.length 256 0),(8,i64 i),(36,i64 t.times),(37,i64 i),(48,i64 t.chambers),(49,i64 (k:Nat))]) (fun k (a:List Int)=>[(32, .cell [i64 t.chambers,i64 t.times, .sl .no 1 (es cInts t.opn), .sl .no 4 (es cWord t.words)]),(256, .cell (trapV t a))]::s) (fun(a:List Int)=>(.exit 6,[(1,i64 (-1)),(2, .ptr s.length 32 0),(5, .ptr s.length 256 0),(8,i64 i),(36,i64 t.times),(37,i64 i),(48,i64 t.chambers),(49,i64 ((List.range t.C).length:Nat)),(50, .bool false)],[(32, .cell [i64 t.chambers,i64 t.times, .sl .no 1 (es cInts t.opn), .sl .no 4 (es cWord t.words)]),(256, .cell (trapV t a))]::s)) (by simp) ?_ ?_ ?_ B (hB) [(1,i64 (-1)),(2, .ptr s.length 32 0),(5, .ptr s.length 256 0),(8,i64 i),(36,i64 t.times),(37,i64 i),(48,i64 t.chambers),(49,i64 0)] ([(32, .cell [i64 t.chambers,i64 t.times, .sl .no 1 (es cInts t.opn), .sl .no 4 (es cWord t.words)]),(256, .cell (trapV t B))]::s) (by simp) (by simp)
 ·exact key
 ·intro k a hk hi
  try simp only[List.length_range]at hk
  try simp only[List.getElem_range]
  have hc:=h.cc
  have ht:=h.tt
  have e1:t.C=t.chambers.toNat:=rfl
  have e2:t.T=t.times.toNat:=rfl
  have hk2:(k:Int)<t.chambers:=by omega
  have n1:=fun B (F:Ab.Loc) (hF:Loc.get F 256=some (.cell (trapV t B))) lab=>e_nodeI t B h s.length 256 i k hi0 (Nat.le_of_lt hk) i k rfl rfl (F::s) (by simp) (by simp[hF]) lab
  have n2:=fun B (F:Ab.Loc) (hF:Loc.get F 256=some (.cell (trapV t B))) lab=>e_nodeI t B h s.length 256 i (k+1) hi0 (show k+1≤t.C from hk) i ((k:Int)+1) rfl rfl (F::s) (by simp) (by simp[hF]) lab
  have b1:=node_lt h hi0 (Nat.le_of_lt hk)
  have b2:=node_lt h hi0 (show k+1≤t.C from hk)
  have hL:=fun B (hB:DoorB B) x y hx hy (F:Ab.Loc) (hF:Loc.get F 256=some (.cell (trapV t B))) lab=>e_limit t x y hx hy 0 (by omega) s.length 256 B (hB.mag.weaken (magN_small (by omega))) (F::s) (by simp) (by simp[hF]) lab
  have l1:=hL a hi _ _ b1 b2
  have d1:DoorB (limL (nodeN t.C i k) (nodeN t.C i (k+1)) 0 a):=hi.lim (l:=⟨nodeN t.C i k,nodeN t.C i (k+1),0⟩) ⟨b1,b2,Int.le_refl _⟩
  have w1:IntKind.i64.wrap ((k:Int)+1)=(k:Int)+1:=wi _ (by omega) (by omega)
  by_cases hz:i=0
  ·subst hz
   simp only[show((0:Nat):Int)=0 from rfl]at n1 n2
   have ef:(limsC t 0 k).foldl limF a=limL (nodeN t.C 0 k) (nodeN t.C 0 (k+1)) 0 a:=rfl
   rw[ef]
   have n1a:=n1 a
   have n2a:=n2 a
   clear n1 n2
   generalize nodeN t.C 0 k=x at*
   generalize nodeN t.C 0 (k+1)=y at*
   generalize limL x y 0 a=B1 at*
   simp (maxSteps:=1000000) (disch:=first|omega|assumption|decide +kernel|(simp;done)|(simp;omega)|fail) [run_drawnK,hk2,n1a,n2a,l1,w1,wk k (by omega)]
  ·obtain⟨j,rfl⟩: ∃j,i=j+1:=⟨i-1,by omega⟩
   simp only[show((j+1:Nat):Int)=(j:Int)+1 from rfl]at n1 n2
   have n3:=fun B (F:Ab.Loc) (hF:Loc.get F 256=some (.cell (trapV t B))) lab=>e_nodeI t B h s.length 256 j k (by omega) (Nat.le_of_lt hk) j k rfl rfl (F::s) (by simp) (by simp[hF]) lab
   have b3:=node_lt h (show j<t.T by omega) (Nat.le_of_lt hk)
   have l2:=hL _ d1 _ _ b1 b3
   have d2:DoorB (limL (nodeN t.C (j+1) k) (nodeN t.C j k) 0 (limL (nodeN t.C (j+1) k) (nodeN t.C (j+1) (k+1)) 0 a)):=d1.lim (l:=⟨nodeN t.C (j+1) k,nodeN t.C j k,0⟩) ⟨b1,b3,Int.le_refl _⟩
   have l3:=hL _ d2 _ _ b3 b1
   have hjo:j<t.opn.length:=by have:=h.opn;omega
   have hj2:(j:Int)<t.opn.length:=by omega
   have hdo:=doorB_has t hjo k
   have hlen:=hop t.opn[j] (List.getElem_mem hjo)
   have w2:IntKind.i64.wrap (j:Int)=j:=wi _ (by omega) (by omega)
   have hj3: ¬(j:Int)+1=0:=by omega
   cases hd:doorB t j k
   ·have ef:(limsC t (j+1) k).foldl limF a=limL (nodeN t.C j k) (nodeN t.C (j+1) k) 0 (limL (nodeN t.C (j+1) k) (nodeN t.C j k) 0 (limL (nodeN t.C (j+1) k) (nodeN t.C (j+1) (k+1)) 0 a)):=by
     unfold limsC;rw[if_neg (by omega),Nat.add_sub_cancel,hd];rfl
    rw[ef]
    rw[hd]at hdo
    clear hL
    have n1a:=n1 a
    have n2a:=n2 a
    have n1b:=n1 (limL (nodeN t.C (j+1) k) (nodeN t.C (j+1) (k+1)) 0 a)
    have n3b:=n3 (limL (nodeN t.C (j+1) k) (nodeN t.C (j+1) (k+1)) 0 a)
    clear n1 n2 n3
    generalize nodeN t.C (j+1) k=x at*
    generalize nodeN t.C (j+1) (k+1)=y at*
    generalize nodeN t.C j k=z at*
    generalize limL z x 0 (limL x z 0 (limL x y 0 a))=B3 at*
    generalize limL x z 0 (limL x y 0 a)=B2 at*
    generalize limL x y 0 a=B1 at*
    simp (maxSteps:=1000000) (disch:=first|omega|assumption|decide +kernel|(simp;done)|(simp;omega)|fail) [run_drawnK,hk2,n1a,n2a,n1b,n3b,l1,l2,l3,w1,w2,hj2,hj3,hjo,hdo.symm,hlen,wk k (by omega)]
   ·have ef:(limsC t (j+1) k).foldl limF a=limL (nodeN t.C (j+1) k) (nodeN t.C j k) 0 (limL (nodeN t.C (j+1) k) (nodeN t.C (j+1) (k+1)) 0 a):=by
     unfold limsC;rw[if_neg (by omega),Nat.add_sub_cancel,hd];rfl
    rw[ef]
    rw[hd]at hdo
    clear hL
    have n1a:=n1 a
    have n2a:=n2 a
    have n1b:=n1 (limL (nodeN t.C (j+1) k) (nodeN t.C (j+1) (k+1)) 0 a)
    have n3b:=n3 (limL (nodeN t.C (j+1) k) (nodeN t.C (j+1) (k+1)) 0 a)
    clear n1 n2 n3
    generalize nodeN t.C (j+1) k=x at*
    generalize nodeN t.C (j+1) (k+1)=y at*
    generalize nodeN t.C j k=z at*
    clear l3 d2
    generalize limL x z 0 (limL x y 0 a)=B2 at*
    generalize limL x y 0 a=B1 at*
    simp (maxSteps:=1000000) (disch:=first|omega|assumption|decide +kernel|(simp;done)|(simp;omega)|fail) [run_drawnK,hk2,n1a,n2a,n1b,n3b,l1,l2,w1,w2,hj2,hj3,hjo,hdo.symm,hlen,wk k (by omega)]
 ·intro k a hk hi
  try simp only[List.length_range]at hk
  try simp only[List.getElem_range]
  exact hi.lims _ fun l hl=>by have:=limsC_lt h hi0 hk hl;omega
 ·intro a hi
  have hc:=h.cc
  have e1:t.C=t.chambers.toNat:=rfl
  have hk3:((t.C:Nat):Int)=t.chambers:=by omega
  simp only[List.length_range,hk3]
  simp
end Go.Proofs.YthghcainodgnkaaGreat

/-
  Watch: a trap made ready, whole (not built yet).
-/
namespace Go.Proofs.YthghcainodgnkaaGreat
open Go.Ab
theorem limsI_fold(t:CTrap)(i:Nat)(A:List Int):(limsI t i).foldl limF A=(List.range t.C).foldl (fun A c=>(limsC t i c).foldl limF A) (limL 0 (nodeN t.C i 0) 40 A):=by
 unfold limsI
 rw[List.foldl_cons,List.foldl_flatMap];rfl
theorem limsT_fold(t:CTrap):(limsT t).foldl limF b0L=(List.range t.T).foldl (fun A i=>(limsI t i).foldl limF A) b0L:=by
 unfold limsT
 rw[List.foldl_flatMap]
set_option maxHeartbeats 1000000 in
theorem e_set_l2(t:CTrap)(h:TrapOk t)(hop: ∀l,l∈t.opn→l.length<4611686018427387904)(s:Stk):
 Run T b147l2 [(1,i64 (-1)),(2, .ptr s.length 32 0),(5, .ptr s.length 256 0),(36,i64 t.times),(37,i64 0)] ([(32, .cell [i64 t.chambers,i64 t.times, .sl .no 1 (es cInts t.opn), .sl .no 4 (es cWord t.words)]),(256, .cell (trapV t b0L))]::s)=some (.exit 4,[(1,i64 (-1)),(2, .ptr s.length 32 0),(5, .ptr s.length 256 0),(36,i64 t.times),(37,i64 ((List.range t.T).length:Nat)),(38, .bool false)],[(32, .cell [i64 t.chambers,i64 t.times, .sl .no 1 (es cInts t.opn), .sl .no 4 (es cWord t.words)]),(256, .cell (trapV t ((List.range t.T).foldl (fun A i=>(limsI t i).foldl limF A) b0L)))]::s):=by
 have key:=loop_fold (T:=T) (live:=[1,2,5,36,37]) (keep:=[32,208,256,1792]) (b:=d147l2) (List.range t.T) (fun _ A=>DoorB A) (fun A i=>(limsI t i).foldl limF A) (fun k (a:List Int)=>[(1,i64 (-1)),(2, .ptr s.length 32 0),(5, .ptr s.length 256 0),(36,i64 t.times),(37,i64 (k:Nat))]) (fun k (a:List Int)=>[(32, .cell [i64 t.chambers,i64 t.times, .sl .no 1 (es cInts t.opn), .sl .no 4 (es cWord t.words)]),(256, .cell (trapV t a))]::s) (fun(a:List Int)=>(.exit 4,[(1,i64 (-1)),(2, .ptr s.length 32 0),(5, .ptr s.length 256 0),(36,i64 t.times),(37,i64 ((List.range t.T).length:Nat)),(38, .bool false)],[(32, .cell [i64 t.chambers,i64 t.times, .sl .no 1 (es cInts t.opn), .sl .no 4 (es cWord t.words)]),(256, .cell (trapV t a))]::s)) (by simp) ?_ ?_ ?_ b0L (.start) [(1,i64 (-1)),(2, .ptr s.length 32 0),(5, .ptr s.length 256 0),(36,i64 t.times),(37,i64 0)] ([(32, .cell [i64 t.chambers,i64 t.times, .sl .no 1 (es cInts t.opn), .sl .no 4 (es cWord t.words)]),(256, .cell (trapV t b0L))]::s) (by simp) (by simp)
 ·exact key
 ·intro k a hk hi
  try simp only[List.length_range]at hk
  try simp only[List.getElem_range]
  have hc:=h.cc
  have ht:=h.tt
  have e1:t.C=t.chambers.toNat:=rfl
  have e2:t.T=t.times.toNat:=rfl
  have hk2:(k:Int)<t.times:=by omega
  have b1:=node_lt h hk (Nat.zero_le t.C)
  have n1:=fun(F:Ab.Loc) (hF:Loc.get F 256=some (.cell (trapV t a))) lab=>e_nodeI t a h s.length 256 k 0 hk (Nat.zero_le _) k 0 rfl rfl (F::s) (by simp) (by simp[hF]) lab
  have l1:=fun(F:Ab.Loc) (hF:Loc.get F 256=some (.cell (trapV t a))) lab=>e_limit t 0 (nodeN t.C k 0) (by decide) b1 40 (by omega) s.length 256 a (hi.mag.weaken (magN_small (by omega))) (F::s) (by simp) (by simp[hF]) lab
  simp only[show((0:Nat):Int)=0 from rfl]at l1
  have d1:DoorB (limL 0 (nodeN t.C k 0) 40 a):=hi.lim (l:=⟨0,nodeN t.C k 0,40⟩) ⟨show 0<21 by decide,b1,by dsimp only;omega⟩
  have h3:=e_set_l3 t h hop k hk _ d1 s
  rw[limsI_fold]
  have eC:((t.C:Nat):Int)=t.chambers:=by omega
  simp only[List.length_range,eC]at h3
  generalize (List.range t.C).foldl (fun A c=>(limsC t k c).foldl limF A) (limL 0 (nodeN t.C k 0) 40 a)=B2 at*
  generalize limL 0 (nodeN t.C k 0) 40 a=B1 at*
  generalize nodeN t.C k 0=x at*
  simp (maxSteps:=1000000) (disch:=first|omega|assumption|decide +kernel|(simp;done)|(simp;omega)|fail) [run_drawnK,hk2,n1,l1,h3,wk k (by omega)]
 ·intro k a hk hi
  try simp only[List.length_range]at hk
  try simp only[List.getElem_range]
  refine hi.lims _ fun l hl=> ?_
  simp only[limsI,List.mem_cons,List.mem_flatMap,List.mem_range]at hl
  rcases hl with rfl|⟨c,hc,hl⟩
  ·exact⟨show 0<21 by decide,node_lt h hk (Nat.zero_le _),by dsimp only;omega⟩
  ·have:=limsC_lt h hk hc hl;omega
 ·intro a hi
  have ht:=h.tt
  have e2:t.T=t.times.toNat:=rfl
  have hk3:((t.T:Nat):Int)=t.times:=by omega
  simp only[List.length_range,hk3]
  simp
set_option maxHeartbeats 1000000 in
theorem e_set_l4(t:CTrap)(h:TrapOk t)(D:List Int)(hD:DoorB D)(s:Stk):
 Run T b147l4 [(1,i64 (-1)),(5, .ptr s.length 256 0),(100, .sl .no 4 (es cWord t.words)),(101,i64 t.words.length),(102,i64 0)] ([(32, .cell [i64 t.chambers,i64 t.times, .sl .no 1 (es cInts t.opn), .sl .no 4 (es cWord t.words)]),(256, .cell (trapV t D))]::s)=some (.exit 8,[(1,i64 (-1)),(5, .ptr s.length 256 0),(100, .sl .no 4 (es cWord t.words)),(101,i64 t.words.length),(102,i64 ((List.range t.words.length).length:Nat)),(103, .bool false)],[(32, .cell [i64 t.chambers,i64 t.times, .sl .no 1 (es cInts t.opn), .sl .no 4 (es cWord t.words)]),(256, .cell (trapV t ((List.range t.words.length).foldl (fun A k=>(limsW t.C (t.words.getD k default)).foldl limF A) D)))]::s):=by
 have key:=loop_fold (T:=T) (live:=[1,5,100,101,102]) (keep:=[32,256,720,736,928,1008,1024,1136,1200,1296,1424,1536]) (b:=d147l4) (List.range t.words.length) (fun k A=>A=((t.words.take k).flatMap (limsW t.C)).foldl limF D) (fun A k=>(limsW t.C (t.words.getD k default)).foldl limF A) (fun k (a:List Int)=>[(1,i64 (-1)),(5, .ptr s.length 256 0),(100, .sl .no 4 (es cWord t.words)),(101,i64 t.words.length),(102,i64 (k:Nat))]) (fun k (a:List Int)=>[(32, .cell [i64 t.chambers,i64 t.times, .sl .no 1 (es cInts t.opn), .sl .no 4 (es cWord t.words)]),(256, .cell (trapV t a))]::s) (fun(a:List Int)=>(.exit 8,[(1,i64 (-1)),(5, .ptr s.length 256 0),(100, .sl .no 4 (es cWord t.words)),(101,i64 t.words.length),(102,i64 ((List.range t.words.length).length:Nat)),(103, .bool false)],[(32, .cell [i64 t.chambers,i64 t.times, .sl .no 1 (es cInts t.opn), .sl .no 4 (es cWord t.words)]),(256, .cell (trapV t a))]::s)) (by simp) ?_ ?_ ?_ D (by simp) [(1,i64 (-1)),(5, .ptr s.length 256 0),(100, .sl .no 4 (es cWord t.words)),(101,i64 t.words.length),(102,i64 0)] ([(32, .cell [i64 t.chambers,i64 t.times, .sl .no 1 (es cInts t.opn), .sl .no 4 (es cWord t.words)]),(256, .cell (trapV t D))]::s) (by simp) (by simp)
 ·exact key
 ·intro k a hk hi
  try simp only[List.length_range]at hk
  try simp only[List.getElem_range]
  have hw8:=h.words
  have hk2:(k:Int)<t.words.length:=by omega
  have ew:t.words.getD k default=t.words[k]:=by simp[List.getD,hk]
  have hmem:t.words[k]∈t.words:=List.getElem_mem hk
  have hm:MagB a (magN (2*k)):=by
   have:=mag_some h hD (t.words.take k) fun w hw=>List.mem_of_mem_take hw
   rw[List.length_take,Nat.min_eq_left (by omega)]at this
   rw[hi];exact this
  have hm1:=hm.weaken (magN_small (by omega))
  obtain⟨k1,k2⟩:=word_in h hmem
  have hb:=wordOk_iff.1 (h.word _ hmem)
  have hm2:MagB (limL (nodeN t.C t.words[k].time.toNat (t.words[k].chamber.toNat+1)) (nodeN t.C t.words[k].time.toNat t.words[k].chamber.toNat) t.words[k].hi a) (magN (2*k+1)):=hm.limit (magN_nonneg _) (l:=⟨_,_,t.words[k].hi⟩) ⟨node_lt h k1 (show t.words[k].chamber.toNat+1≤t.C from k2),node_lt h k1 (Nat.le_of_lt k2),by dsimp only;omega⟩
  have hW:=fun(F:Ab.Loc) (hF:Loc.get F 256=some (.cell (trapV t a))) lab=>e_word t h s.length 256 a hm1 t.words[k] hmem (hm2.weaken (magN_small (by omega))) (F::s) (by simp) (by simp[hF]) lab
  have hk3: ¬(k:Int)= -1:=by omega
  rw[ew]
  generalize (limsW t.C t.words[k]).foldl limF a=B1 at*
  simp (maxSteps:=1000000) (disch:=first|omega|assumption|decide +kernel|(simp;done)|(simp;omega)|fail) [hk,hk2,hk3,hW,wk k (by omega)]
 ·intro k a hk hi
  try simp only[List.length_range]at hk
  try simp only[List.getElem_range]
  have hk':k<t.words.length:=hk
  have ew:t.words.getD k default=t.words[k]:=by simp[List.getD,hk']
  rw[ew,List.take_succ_eq_append_getElem hk',List.flatMap_append,List.foldl_append,←hi]
  simp
 ·intro a hi
  simp
end Go.Proofs.YthghcainodgnkaaGreat

/-
  Watch: counts.Check, open (not built yet).
-/
namespace Go.Proofs.YthghcainodgnkaaGreat
open Go.Ab
def trapB(t:CTrap):Bool:=wiB t.chambers 1 4&&(wiB t.times 1 5&&(decide ((t.opn.length:Int)=t.times-1)&&(decide (t.words.length≤8)&&(allB (fun l=>rising l 0 (t.chambers-1)) t.opn&&allB (fun w=>wordOk t w) t.words))))
theorem trapB_ok {t:CTrap}(h:trapB t=true):TrapOk t:=by
 simp only[trapB,Bool.and_eq_true,wiB_iff,decide_eq_true_eq,allB,List.all_eq_true]at h
 exact⟨h.1,h.2.1,h.2.2.2.2.2,by omega,h.2.2.1⟩
theorem trapB_rise {t:CTrap}(h:trapB t=true) {l:List Int}(hl:l∈t.opn):rising l 0 (t.chambers-1)=true:=by
 simp only[trapB,Bool.and_eq_true,allB,List.all_eq_true]at h
 exact h.2.2.2.2.1 l hl
theorem trapB_open {t:CTrap}(h:trapB t=true): ∀l,l∈t.opn→l.length<4611686018427387904:=fun l hl=>by
 obtain⟨h1,h2⟩:=rising_iff.1 (trapB_rise h hl)
 have hc:=(trapB_ok h).cc
 have:=pair_lenL (lo:=0) (n:=4) h1 fun x hx=>by have:=h2 x hx;omega
 omega
structure ShortT(t:CTrap):Prop where
 opn:t.opn.length<4611686018427387904
 words:t.words.length<4611686018427387904
 each: ∀l,l∈t.opn→l.length<4611686018427387904
abbrev vT(t:CTrap):List V:=[i64 t.chambers,i64 t.times, .sl .no 1 (es cInts t.opn), .sl .no 4 (es cWord t.words)]
def placeB(t:CTrap)(i c:Int):Bool:=wiB i 0 (t.times-1)&&wiB c 0 (t.chambers-1)
def Mid(t:CTrap):Prop:=(-9000000000000000000≤t.chambers∧t.chambers≤9000000000000000000)∧ -9000000000000000000≤t.times∧t.times≤9000000000000000000
theorem TrapOk.mid {t:CTrap}(h:1≤t.chambers∧t.chambers≤4)(h':1≤t.times∧t.times≤5):Mid t:=⟨by omega,by omega⟩
theorem e_isPlace(t:CTrap)(hm:Mid t)(i c:Int)(lab s):den T 143 [.agg (vT t),i64 i,i64 c] lab s=some (.bool (placeB t i c),s):=by
 obtain⟨h1,h2⟩:=hm
 have w1:IntKind.i64.wrap (t.chambers-1)=t.chambers-1:=wi _ (by omega) (by omega)
 have w2:IntKind.i64.wrap (t.times-1)=t.times-1:=wi _ (by omega) (by omega)
 rw[den_fn t143 _ _ _ rfl]
 simp only[b143]
 unfold placeB
 cases h:wiB i 0 (t.times-1)<;>simp (maxSteps:=1000000) (disch:=first|omega|assumption|decide +kernel|(simp;done)|(simp;omega)|fail) [h,w1,w2]
theorem wordOk_place(t:CTrap)(w:CWord):wordOk t w=(placeB t w.time w.chamber&&(wiB w.lo 0 w.hi&&decide (w.hi≤40))):=by
 rw[Bool.eq_iff_iff,wordOk_iff]
 simp only[placeB,Bool.and_eq_true,wiB_iff,decide_eq_true_eq]
 omega
theorem e_isWord(t:CTrap)(hm:Mid t)(w:CWord)(lab s):den T 126 [.agg (vT t), .agg [i64 w.time,i64 w.chamber,i64 w.lo,i64 w.hi]] lab s=some (.bool (wordOk t w),s):=by
 have hp:=fun lab s=>e_isPlace t hm w.time w.chamber lab s
 rw[wordOk_place]
 rw[den_fn t126 _ _ _ rfl]
 simp only[b126]
 cases h:placeB t w.time w.chamber
 ·simp (maxSteps:=1000000) (disch:=first|omega|assumption|decide +kernel|(simp;done)|(simp;omega)|fail) [hp,h]
 ·cases h2:wiB w.lo 0 w.hi<;>simp (maxSteps:=1000000) (disch:=first|omega|assumption|decide +kernel|(simp;done)|(simp;omega)|fail) [hp,h,h2]
theorem e_isTime01(t:CTrap)(hm:Mid t)(i:Int)(lab s):den T 111 [.agg (vT t),i64 i] lab s=some (.bool (wiB i 0 (t.times-1)),s):=by
 obtain⟨h1,h2⟩:=hm
 have w2:IntKind.i64.wrap (t.times-1)=t.times-1:=wi _ (by omega) (by omega)
 rw[den_fn t111 _ _ _ rfl]
 simp only[b111]
 simp (maxSteps:=1000000) (disch:=first|omega|assumption|decide +kernel|(simp;done)|(simp;omega)|fail) [w2]
theorem e_isChamber01(t:CTrap)(hm:Mid t)(i:Int)(lab s):den T 103 [.agg (vT t),i64 i] lab s=some (.bool (wiB i 0 (t.chambers-1)),s):=by
 obtain⟨h1,h2⟩:=hm
 have w1:IntKind.i64.wrap (t.chambers-1)=t.chambers-1:=wi _ (by omega) (by omega)
 rw[den_fn t103 _ _ _ rfl]
 simp only[b103]
 simp (maxSteps:=1000000) (disch:=first|omega|assumption|decide +kernel|(simp;done)|(simp;omega)|fail) [w1]
theorem e_isWord01(t:CTrap)(hm:Mid t)(w:CWord)(lab s):den T 130 [.agg (vT t), .agg [i64 w.time,i64 w.chamber,i64 w.lo,i64 w.hi]] lab s=some (.bool (wordOk t w),s):=by
 have h1:=fun lab s=>e_isTime01 t hm w.time lab s
 have h2:=fun lab s=>e_isChamber01 t hm w.chamber lab s
 unfold wordOk
 rw[den_fn t130 _ _ _ rfl]
 simp only[b130]
 cases k1:wiB w.time 0 (t.times-1)
 ·simp (maxSteps:=1000000) (disch:=first|omega|assumption|decide +kernel|(simp;done)|(simp;omega)|fail) [h1,k1]
 ·cases k2:wiB w.chamber 0 (t.chambers-1)
  ·simp (maxSteps:=1000000) (disch:=first|omega|assumption|decide +kernel|(simp;done)|(simp;omega)|fail) [h1,h2,k1,k2]
  ·cases k3:wiB w.hi 0 40<;>simp (maxSteps:=1000000) (disch:=first|omega|assumption|decide +kernel|(simp;done)|(simp;omega)|fail) [h1,h2,k1,k2,k3]
end Go.Proofs.YthghcainodgnkaaGreat

/-
  Watch: counts.Check, the reference's Check (not built yet).
-/
namespace Go.Proofs.YthghcainodgnkaaGreat
open Go.Ab
theorem e_chk_l1(t:CTrap)(hm:Mid t)(l:List Int)(hl:l.length<4611686018427387904)(o:List (List Int))(n i:Int)(s:Stk):
 Run T b94l1 [(1, .ptr s.length 16 0),(4, .sl .no 1 (es cInt l)),(33, .sl .no 1 (es cInts o)),(34,i64 n),(35,i64 i),(39, .sl .no 1 (es cInt l)),(40,i64 l.length),(41,i64 0)] ([(16, .cell (vT t))]::s)=
  if rising l 0 (t.chambers-1)=true then some (.exit 2,[(1, .ptr s.length 16 0),(4, .sl .no 1 (es cInt l)),(33, .sl .no 1 (es cInts o)),(34,i64 n),(35,i64 i),(39, .sl .no 1 (es cInt l)),(40,i64 l.length),(41,i64 l.length),(42, .bool false)],[(16, .cell (vT t))]::s)
  else some (.ret,[(2,i64 10)],[(16, .cell (vT t))]::s):=by
 obtain⟨⟨m1,m2⟩,_⟩:=hm
 have w1:IntKind.i64.wrap (t.chambers-1)=t.chambers-1:=wi _ (by omega) (by omega)
 refine(loop_all (List.range l.length) (risingAt l 0 (t.chambers-1)) (fun k=>[(1, .ptr s.length 16 0),(4, .sl .no 1 (es cInt l)),(33, .sl .no 1 (es cInts o)),(34,i64 n),(35,i64 i),(39, .sl .no 1 (es cInt l)),(40,i64 l.length),(41,i64 k)]) (fun _=>[(16, .cell (vT t))]::s) (.ret,[(2,i64 10)],[(16, .cell (vT t))]::s) (.exit 2,[(1, .ptr s.length 16 0),(4, .sl .no 1 (es cInt l)),(33, .sl .no 1 (es cInts o)),(34,i64 n),(35,i64 i),(39, .sl .no 1 (es cInt l)),(40,i64 l.length),(41,i64 ((List.range l.length).length:Nat)),(42, .bool false)],[(16, .cell (vT t))]::s) (by simp) (by simp) ?_ (by simp) _ _ (by simp) (by simp)).trans (by simp only[List.length_range];rfl)
 intro k hk
 simp only[List.length_range]at hk
 simp only[List.getElem_range]
 have hg:l.getD k 0=l[k]:=by simp[List.getD,hk]
 have hk2:(k:Int)<l.length:=by omega
 cases h0:wiB l[k] 0 (t.chambers-1)
 ·simp (disch:=first|omega|assumption|decide +kernel|(simp;done)|(simp;omega)|fail) [hk,hk2,h0,w1,risingAt]
 by_cases h1:k=0
 ·subst h1
  simp (disch:=first|omega|assumption|decide +kernel|(simp;done)|(simp;omega)|fail) [hk,hk2,h0,w1,risingAt,wi]
 have hk1:k-1<l.length:=by omega
 have h1p:0<k:=by omega
 have h1q:(1:Int)≤k:=by omega
 have hg1:l.getD (k-1) 0=l[k-1]:=by simp[List.getD,hk1]
 have hn:((k:Int)-1).toNat=k-1:=by omega
 have wk1:IntKind.i64.wrap ((k:Int)-1)=(k:Int)-1:=wi _ (by omega) (by omega)
 have wk2:IntKind.i64.wrap ((k:Int)+1)=(k:Int)+1:=wi _ (by omega) (by omega)
 have hlt:(k:Int)-1<l.length:=by omega
 by_cases h2:l[k-1]<l[k]
 ·have h3: ¬l[k]≤l[k-1]:=by omega
  simp (disch:=first|omega|assumption|decide +kernel|(simp;done)|(simp;omega)|fail) [hk,hk2,hk1,h0,w1,h1,h1p,h1q,h2,h3,hn,hlt,wk1,wk2,risingAt]
 ·have h3:l[k]≤l[k-1]:=by omega
  simp (disch:=first|omega|assumption|decide +kernel|(simp;done)|(simp;omega)|fail) [hk,hk2,hk1,h0,w1,h1,h1p,h1q,h2,h3,hn,hlt,wk1,wk2,risingAt]
theorem e_chk_l0(t:CTrap)(hm:Mid t)(hs:ShortT t)(s:Stk):
 Run T b94l0 [(1, .ptr s.length 16 0),(33, .sl .no 1 (es cInts t.opn)),(34,i64 t.opn.length),(35,i64 0)] ([(16, .cell (vT t))]::s)=
  if allB (fun l=>rising l 0 (t.chambers-1)) t.opn=true then some (.exit 0,[(1, .ptr s.length 16 0),(33, .sl .no 1 (es cInts t.opn)),(34,i64 t.opn.length),(35,i64 t.opn.length),(36, .bool false)],[(16, .cell (vT t))]::s)
  else some (.ret,[(2,i64 10)],[(16, .cell (vT t))]::s):=by
 refine loop_all t.opn (fun l=>rising l 0 (t.chambers-1)) (fun k=>[(1, .ptr s.length 16 0),(33, .sl .no 1 (es cInts t.opn)),(34,i64 t.opn.length),(35,i64 k)]) (fun _=>[(16, .cell (vT t))]::s) _ _ (by simp) (by simp) ?_ (by simp) _ _ (by simp) (by simp)
 intro k hk
 have hlo:=hs.opn
 have hk2:(k:Int)<t.opn.length:=by omega
 have h:=e_chk_l1 t hm t.opn[k] (hs.each _ (List.getElem_mem hk)) t.opn t.opn.length k s
 cases hr:rising t.opn[k] 0 (t.chambers-1)
 ·rw[hr]at h
  simp only[Bool.false_eq_true,if_false]at h
  simp (maxSteps:=1000000) (disch:=first|omega|assumption|decide +kernel|(simp;done)|(simp;omega)|fail) [hk,hk2,h,hr,wk k (by omega)]
 ·rw[hr]at h
  simp only[if_true]at h
  simp (maxSteps:=1000000) (disch:=first|omega|assumption|decide +kernel|(simp;done)|(simp;omega)|fail) [hk,hk2,h,hr,wk k (by omega)]
theorem e_Check1(t:CTrap)(hm:Mid t)(w:CWord)(d l:Nat)(s:Stk)(h:sget s d l=some (.cell (vT t)))(hd: ¬d=s.length)(lab):
 den T 141 [.agg [i64 w.time,i64 w.chamber,i64 w.lo,i64 w.hi], .ptr d l 0] lab s=some (.bool (!wordOk t w),s):=by
 have hw:=fun lab s=>e_isWord t hm w lab s
 rw[den_fn t141 _ _ _ rfl]
 simp only[b141]
 cases k:wordOk t w<;>simp (maxSteps:=1000000) (disch:=first|omega|assumption|decide +kernel|(simp;done)|(simp;omega)|fail) [h,hd,hw,k]
theorem e_IndexW_l(t:CTrap)(hm:Mid t)(ws:List CWord)(d l:Nat)(s:Stk)(h:sget s d l=some (.cell (vT t)))(hd:d<s.length)(hl:ws.length<4611686018427387904):
 ∃g:Nat,Run T b157l0 [(0, .sl .no 4 (es cWord ws)),(1, .fn 141 [] [.ptr d l 0]),(7,i64 ws.length),(8,i64 0)] ([]::s)=
  if allB (fun w=>wordOk t w) ws=true then some (.exit 0,[(0, .sl .no 4 (es cWord ws)),(1, .fn 141 [] [.ptr d l 0]),(7,i64 ws.length),(8,i64 ws.length),(9, .bool false)],[]::s)else some (.ret,[(4,i64 (g:Nat))],[]::s):=by
 have hd2: ¬d=s.length:=by omega
 have hd3: ¬d=s.length+1:=by omega
 have hc: ∀(w:CWord) lab,den T 141 [.agg [i64 w.time,i64 w.chamber,i64 w.lo,i64 w.hi], .ptr d l 0] lab ([]::s)=some (.bool (!wordOk t w),[]::s):=fun w lab=>e_Check1 t hm w d l ([]::s) (by simp[hd2,h]) (by simp;omega) lab
 refine loop_all_g ws (fun w=>wordOk t w) (fun k=>[(0, .sl .no 4 (es cWord ws)),(1, .fn 141 [] [.ptr d l 0]),(7,i64 ws.length),(8,i64 k)]) (fun _=>[]::s) (fun g:Nat=>(.ret,[(4,i64 (g:Nat))],[]::s)) _ (by simp) (by simp[hd2]) ?_ (by simp) _ _ (by simp[hd2]) (by simp)
 intro k hk
 refine⟨k,?_⟩
 have hk2:(k:Int)<ws.length:=by omega
 have hc2:=fun lab=>hc ws[k] lab
 cases h2:wordOk t ws[k]
 ·simp (maxSteps:=1000000) (disch:=first|omega|assumption|decide +kernel|(simp;done)|(simp;omega)|fail) [hk,hk2,hc2,h2,hd2,hd3,wk k (by omega)]
 ·simp (maxSteps:=1000000) (disch:=first|omega|assumption|decide +kernel|(simp;done)|(simp;omega)|fail) [hk,hk2,hc2,h2,hd2,hd3,wk k (by omega)]
theorem e_ContainsW(t:CTrap)(hm:Mid t)(ws:List CWord)(d l:Nat)(s:Stk)(h:sget s d l=some (.cell (vT t)))(hd:d<s.length)(hl:ws.length<4611686018427387904)(lab):
 den T 140 [.sl .no 4 (es cWord ws), .fn 141 [] [.ptr d l 0]] lab s=some (.bool (!allB (fun w=>wordOk t w) ws),s):=by
 have hd2: ¬d=s.length:=by omega
 have hd3: ¬d=s.length+1:=by omega
 have hi: ∃r:Int,(∀lab,den T 157 [.sl .no 4 (es cWord ws), .fn 141 [] [.ptr d l 0]] lab ([]::s)=some (i64 r,[]::s))∧(0≤r↔allB (fun w=>wordOk t w) ws=false):=by
  obtain⟨g,hg⟩:=e_IndexW_l t hm ws d l ([]::s) (by simp[hd2,h]) (by simp;omega) hl
  refine⟨if allB (fun w=>wordOk t w) ws=true then -1 else g,?_,?_⟩
  rotate_left
  ·cases allB (fun w=>wordOk t w) ws<;>simp
  intro lab
  rw[den_fn t157 _ _ _ rfl]
  simp only[b157]
  cases h:allB (fun w=>wordOk t w) ws<;>simp (maxSteps:=1000000) (disch:=first|omega|assumption|decide +kernel|(simp;done)|(simp;omega)|fail) [hg,h,hd2,hd3]
 obtain⟨r,hr,hi⟩:=hi
 rw[den_fn t140 _ _ _ rfl]
 simp only[b140]
 by_cases h:0≤r
 ·simp (maxSteps:=1000000) (disch:=first|omega|assumption|decide +kernel|(simp;done)|(simp;omega)|fail) [hr,h,hi.1 h,hd2]
 ·have:allB (fun w=>wordOk t w) ws=true:=by cases hx:allB (fun w=>wordOk t w) ws;exact absurd (hi.2 hx) h;rfl
  simp (maxSteps:=1000000) (disch:=first|omega|assumption|decide +kernel|(simp;done)|(simp;omega)|fail) [hr,h,this,hd2]
set_option maxHeartbeats 1000000 in
theorem e_Check1C(t:CTrap)(hs:ShortT t)(lab s):den T 94 [.agg (vT t)] lab s=some (i64 (if trapB t=true then 0 else 10),s):=by
 have ho:=hs.opn
 have hw:=hs.words
 rw[den_fn t94 _ _ _ rfl]
 simp only[b94]
 unfold trapB
 cases c1:wiB t.chambers 1 4
 ·simp (maxSteps:=1000000) (disch:=first|omega|assumption|decide +kernel|(simp;done)|(simp;omega)|fail) [c1]
 cases c2:wiB t.times 1 5
 ·simp (maxSteps:=1000000) (disch:=first|omega|assumption|decide +kernel|(simp;done)|(simp;omega)|fail) [c1,c2]
 have hm:Mid t:=TrapOk.mid (wiB_iff.1 c1) (wiB_iff.1 c2)
 have w1:IntKind.i64.wrap (t.times-1)=t.times-1:=by have:=(wiB_iff.1 c2);exact wi _ (by omega) (by omega)
 by_cases c3:(t.opn.length:Int)=t.times-1
 rotate_left
 ·simp (maxSteps:=1000000) (disch:=first|omega|assumption|decide +kernel|(simp;done)|(simp;omega)|fail) [c1,c2,c3,w1]
 by_cases c4:t.words.length≤8
 rotate_left
 ·have c4':(8:Int)<t.words.length:=by omega
  simp (maxSteps:=1000000) (disch:=first|omega|assumption|decide +kernel|(simp;done)|(simp;omega)|fail) [c1,c2,c3,c4,c4',w1]
 have c4': ¬(8:Int)<t.words.length:=by omega
 have h0:=e_chk_l0 t hm hs s
 have hC:=fun(F:Ab.Loc) (hF:Loc.get F 16=some (.cell (vT t))) lab=>e_ContainsW t hm t.words s.length 16 (F::s) (by simp[hF]) (by simp) hw lab
 rw[c3]at h0
 cases c5:allB (fun l=>rising l 0 (t.chambers-1)) t.opn
 ·rw[c5]at h0
  simp only[Bool.false_eq_true,if_false]at h0
  simp (maxSteps:=1000000) (disch:=first|omega|assumption|decide +kernel|(simp;done)|(simp;omega)|fail) [c1,c2,c3,c4,c4',c5,w1,h0]
 ·rw[c5]at h0
  simp only[if_true]at h0
  cases c6:allB (fun w=>wordOk t w) t.words<;>simp (maxSteps:=1000000) (disch:=first|omega|assumption|decide +kernel|(simp;done)|(simp;omega)|fail) [c1,c2,c3,c4,c4',c5,c6,w1,h0,hC]
end Go.Proofs.YthghcainodgnkaaGreat

/-
  Watch: set, whole; open; Fish, Came, Judge (not built yet).
-/
namespace Go.Proofs.YthghcainodgnkaaGreat
open Go.Ab
theorem words_fold {α:Type} [Inhabited α](f:α→List Lim): ∀(l:List α) (D:List Int),(List.range l.length).foldl (fun A k=>(f (l.getD k default)).foldl limF A) D=(l.flatMap f).foldl limF D:=by
 intro l D
 have key: ∀m,m≤l.length→(List.range m).foldl (fun A k=>(f (l.getD k default)).foldl limF A) D=((l.take m).flatMap f).foldl limF D:=by
  intro m
  induction m with
  |zero=>intro _;simp
  |succ m ih=>
    intro hm
    have hm':m<l.length:=hm
    have e:l.getD m default=l[m]:=by simp[List.getD,hm']
    rw[rangeSucc_fold,ih (by omega),e,List.take_succ_eq_append_getElem hm',List.flatMap_append,List.foldl_append]
    simp
 have:=key l.length (Nat.le_refl _)
 rwa [List.take_length]at this
theorem setB_two(t:CTrap):setB t=(t.words.flatMap (limsW t.C)).foldl limF ((limsT t).foldl limF b0L):=by
 unfold setB lims;rw[List.foldl_append]
theorem limsT_door {t:CTrap}(h:TrapOk t):DoorB ((limsT t).foldl limF b0L):=DoorB.start.lims _ fun l hl=>by
 simp only[limsT,limsI,List.mem_flatMap,List.mem_range,List.mem_cons]at hl
 obtain⟨i,hi,rfl|⟨c,hc,hl⟩⟩:=hl
 ·exact⟨show 0<21 by decide,node_lt h hi (Nat.zero_le _),by dsimp only;omega⟩
 ·have:=limsC_lt h hi hc hl;omega
theorem setB_mag {t:CTrap}(h:TrapOk t):MagB (setB t) 10000000000000000:=by
 rw[setB_two]
 exact(mag_some h (limsT_door h) t.words fun _ h=>h).weaken (magN_small (by have:=h.words;omega))
theorem zeroV_trap(t:CTrap):(i64 t.chambers::i64 t.times:: .sl .no 1 (es cInts t.opn):: .sl .no 4 (es cWord t.words)::zeroV 441)=trapV t zeroB:=by
 simp only[trapV,zeroV,zeroB,List.map_replicate]
set_option maxHeartbeats 2000000 in
theorem e_set(t:CTrap)(h:TrapOk t)(hop: ∀l,l∈t.opn→l.length<4611686018427387904)(F:Ab.Loc)(s:Stk)(lab:Nat)(hF:Loc.get F lab=none):
 den T 147 [.agg (vT t),i64 (-1)] lab (F::s)=some (.ptr s.length lab 0,Loc.put F lab (.cell (trapV t (setB t)))::s):=by
 have h0:=e_set_l0 t (F::s)
 have h2:=e_set_l2 t h hop (F::s)
 have h4:=e_set_l4 t h _ (limsT_door h) (F::s)
 rw[words_fold,←setB_two]at h4
 rw[←limsT_fold]at h2
 rw[fill_all]at h0
 have ht:=h.tt
 have eT:((t.T:Nat):Int)=t.times:=by have:t.T=t.times.toNat:=rfl;omega
 simp only[List.length_range,List.length_cons,eT]at h0 h2 h4
 have hz:=zeroV_trap t
 generalize (limsT t).foldl limF b0L=D at*
 generalize setB t=E at*
 generalize b0L=B0 at*
 rw[den_fn t147 _ _ _ rfl]
 simp only[b147]
 simp (maxSteps:=1000000) (disch:=first|omega|assumption|decide +kernel|(simp;done)|(simp;omega)|fail) [h0,h2,h4,hz,hF]
def askT(t:CTrap)(is:Bool):Int:=if trapB t=true then(if is=true then 0 else 1)else 10
theorem e_askC1(t:CTrap)(hs:ShortT t)(is:Bool)(lab s):den T 146 [.agg (vT t), .bool is] lab s=some (i64 (askT t is),s):=by
 have hc:=fun lab s=>e_Check1C t hs lab s
 unfold askT
 rw[den_fn t146 _ _ _ rfl]
 simp only[b146]
 cases h:trapB t<;>cases is<;>simp (maxSteps:=1000000) (disch:=first|omega|assumption|decide +kernel|(simp;done)|(simp;omega)|fail) [hc,h]
def openT(t:CTrap)(is:Bool):Int:=if askT t is=0 then(if clashB (setB t)=true then 3 else 0)else askT t is
theorem ask_trap {t:CTrap} {is:Bool}(h:askT t is=0):trapB t=true∧is=true:=by
 unfold askT at h
 cases h1:trapB t
 ·rw[h1]at h;simp at h
 ·cases is
  ·rw[h1]at h;simp at h
  ·exact⟨rfl,rfl⟩
set_option maxHeartbeats 1000000 in
theorem e_open_no(t:CTrap)(hs:ShortT t)(is:Bool)(h: ¬openT t is=0)(F:Ab.Loc)(s:Stk)(lab:Nat):den T 114 [.agg (vT t), .bool is] lab (F::s)=some (.tup [.nilp,i64 (openT t is)],F::s):=by
 have ha:=fun lab s=>e_askC1 t hs is lab s
 unfold openT at h⊢
 rw[den_fn t114 _ _ _ rfl]
 simp only[b114]
 by_cases h1:askT t is=0
 ·rw[if_pos h1]at h⊢
  obtain⟨k1,k2⟩:=ask_trap h1
  have hok:=trapB_ok k1
  cases hc:clashB (setB t)
  ·rw[hc]at h;simp at h
  have hS:=fun(G:Ab.Loc) lab hG=>e_set t hok (trapB_open k1) G (F::s) lab hG
  have hcl:=fun(G:Ab.Loc) lab (hG:Loc.get G 240=some (.cell (trapV t (setB t))))=>e_clash t (F::s).length 240 (setB t) (setB_mag hok).len (G::F::s) (by simp) (by simp[hG]) lab
  rw[hc]at hcl
  simp only[List.length_cons]at hcl hS
  generalize setB t=B at*
  simp (maxSteps:=1000000) (disch:=first|omega|assumption|decide +kernel|(simp;done)|(simp;omega)|fail) [ha,h1,hS,hcl]
 ·rw[if_neg h1]
  simp (maxSteps:=1000000) (disch:=first|omega|assumption|decide +kernel|(simp;done)|(simp;omega)|fail) [ha,h1]
set_option maxHeartbeats 1000000 in
theorem e_open_ok(t:CTrap)(hs:ShortT t)(is:Bool)(h:openT t is=0)(F:Ab.Loc)(s:Stk)(lab:Nat)(hF:Loc.get F lab=none):den T 114 [.agg (vT t), .bool is] lab (F::s)=some (.tup [.ptr s.length lab 0,i64 0],Loc.put F lab (.cell (trapV t (setB t)))::s):=by
 have ha:=fun lab s=>e_askC1 t hs is lab s
 unfold openT at h
 by_cases h1:askT t is=0
 rotate_left
 ·rw[if_neg h1]at h;exact absurd h h1
 rw[if_pos h1]at h
 obtain⟨k1,k2⟩:=ask_trap h1
 have hok:=trapB_ok k1
 have hc:clashB (setB t)=false:=by cases hc:clashB (setB t);rfl;rw[hc]at h;simp at h
 have hS:=fun(G:Ab.Loc) lab hG=>e_set t hok (trapB_open k1) G (F::s) lab hG
 have hcl:=fun(G:Ab.Loc) lab (hG:Loc.get G 240=some (.cell (trapV t (setB t))))=>e_clash t (F::s).length 240 (setB t) (setB_mag hok).len (G::F::s) (by simp) (by simp[hG]) lab
 rw[hc]at hcl
 simp only[List.length_cons]at hcl hS
 generalize setB t=B at*
 rw[den_fn t114 _ _ _ rfl]
 simp only[b114]
 simp (maxSteps:=1000000) (disch:=first|omega|assumption|decide +kernel|(simp;done)|(simp;omega)|fail) [ha,h1,hS,hcl,hF]
end Go.Proofs.YthghcainodgnkaaGreat

/-
  Watch: Fish, Came, Judge of counts (not built yet).
-/
namespace Go.Proofs.YthghcainodgnkaaGreat
open Go.Ab
theorem openT_ok {t:CTrap} {is:Bool}(h:openT t is=0):trapB t=true∧is=true∧ ∃x,Sol t x:=by
 unfold openT at h
 by_cases h1:askT t is=0
 ·rw[if_pos h1]at h
  obtain⟨k1,k2⟩:=ask_trap h1
  refine⟨k1,k2,(clash_iff (trapB_ok k1)).1 ?_⟩
  cases hc:clashB (setB t)
  ·rfl
  ·rw[hc]at h;simp at h
 ·rw[if_neg h1]at h;exact absurd h h1
theorem openT_of {t:CTrap}(h:trapB t=true) {is:Bool}:openT t is=if is=true then(if isOneB t=true then 0 else 3)else 1:=by
 unfold openT askT
 rw[h]
 cases is
 ·simp
 ·have h1:=clash_iff (trapB_ok h)
  have h2:=isOne_iff (trapB_ok h)
  cases hc:clashB (setB t)
  ·have:isOneB t=true:=h2.2 (h1.1 hc)
   simp[this]
  ·have:isOneB t=false:=by
    cases ho:isOneB t
    ·rfl
    ·have:=h1.2 (h2.1 ho);rw[hc]at this;cases this
   simp[this]
theorem trapB_mid {t:CTrap}(h:trapB t=true):Mid t:=TrapOk.mid (trapB_ok h).cc (trapB_ok h).tt
theorem e_fish(t:CTrap)(h:TrapOk t)(d l:Nat)(i c:Nat)(hi:i<t.T)(hc:c<t.C)(s:Stk)(hd2:d<s.length)(hs:sget s d l=some (.cell (trapV t (setB t))))(lab):
 den T 127 [.ptr d l 0,i64 i,i64 c] lab s=some (.agg [i64 (betwS (setB t) (nodeN t.C i (c+1)) (nodeN t.C i c)).lo,i64 (betwS (setB t) (nodeN t.C i (c+1)) (nodeN t.C i c)).hi],s):=by
 have hd: ¬d=s.length:=by omega
 have hcc:=h.cc
 have e1:t.C=t.chambers.toNat:=rfl
 have n1:=fun(F:Ab.Loc) lab=>e_nodeI t (setB t) h d l i c hi (Nat.le_of_lt hc) i c rfl rfl (F::s) (by simp;omega) (by rw[sget_cons,if_neg hd];exact hs) lab
 have n2:=fun(F:Ab.Loc) lab=>e_nodeI t (setB t) h d l i (c+1) hi (show c+1≤t.C from hc) i ((c:Int)+1) rfl rfl (F::s) (by simp;omega) (by rw[sget_cons,if_neg hd];exact hs) lab
 have hb:=fun(F:Ab.Loc) lab=>e_betw t (nodeN t.C i (c+1)) (nodeN t.C i c) (node_lt h hi (show c+1≤t.C from hc)) (node_lt h hi (Nat.le_of_lt hc)) d l (setB t) (setB_mag h) (F::s) (by simp;omega) (by rw[sget_cons,if_neg hd];exact hs) lab
 have w1:IntKind.i64.wrap ((c:Int)+1)=(c:Int)+1:=wi _ (by omega) (by omega)
 generalize betwS (setB t) (nodeN t.C i (c+1)) (nodeN t.C i c)=b at*
 generalize nodeN t.C i (c+1)=x at*
 generalize nodeN t.C i c=y at*
 rw[den_fn t127 _ _ _ rfl]
 simp only[b127]
 simp (maxSteps:=1000000) (disch:=first|omega|assumption|decide +kernel|(simp;done)|(simp;omega)|fail) [orSlow_none,hd,n1,n2,hb,w1]
def fishC(t:CTrap)(i c:Int):CSp×Int:=if openT t (placeB t i c)=0 then(difR t i.toNat c.toNat i.toNat (c.toNat+1),0)else(⟨0,0⟩,openT t (placeB t i c))
set_option maxHeartbeats 1000000 in
theorem e_Fish(t:CTrap)(hs:ShortT t)(hB:trapB t=true)(i c:Int)(lab s):den T 102 [.agg (vT t),i64 i,i64 c] lab s=some (.tup [.agg [i64 (fishC t i c).1.lo,i64 (fishC t i c).1.hi],i64 (fishC t i c).2],s):=by
 have hp:=fun lab s=>e_isPlace t (trapB_mid hB) i c lab s
 unfold fishC
 rw[den_fn t102 _ _ _ rfl]
 simp only[b102]
 by_cases h:openT t (placeB t i c)=0
 ·obtain⟨k1,k2,k3⟩:=openT_ok h
  have hok:=trapB_ok k1
  have ho:=fun(F:Ab.Loc) lab hF=>e_open_ok t hs (placeB t i c) h F s lab hF
  have hb:(0≤i∧i≤t.times-1)∧0≤c∧c≤t.chambers-1:=by simpa only[placeB,Bool.and_eq_true,wiB_iff]using k2
  have e1:t.C=t.chambers.toNat:=rfl
  have e2:t.T=t.times.toNat:=rfl
  obtain⟨i,rfl⟩: ∃n:Nat,i=n:=⟨i.toNat,by omega⟩
  obtain⟨c,rfl⟩: ∃n:Nat,c=n:=⟨c.toNat,by omega⟩
  have hf:=fun(F:Ab.Loc) (hF:Loc.get F 256=some (.cell (trapV t (setB t)))) lab=>e_fish t hok s.length 256 i c (by omega) (by omega) (F::s) (by simp) (by simp[hF]) lab
  rw[betw_eq hok k3 (by omega) (by omega) (by omega) (by omega)]at hf
  rw[if_pos h]
  rw[k2]at ho
  simp only[Int.toNat_natCast]
  generalize difR t i c i (c+1)=b at*
  generalize setB t=B at*
  simp (maxSteps:=1000000) (disch:=first|omega|assumption|decide +kernel|(simp;done)|(simp;omega)|fail) [orSlow_none,hp,k2,ho,hf]
 ·have ho:=fun(F:Ab.Loc) lab=>e_open_no t hs (placeB t i c) h F s lab
  rw[if_neg h]
  generalize placeB t i c=p at*
  simp (maxSteps:=1000000) (disch:=first|omega|assumption|decide +kernel|(simp;done)|(simp;omega)|fail) [orSlow_none,hp,ho,h]
def judgeC(t:CTrap)(w:CWord):Int×Int:=if openT t (wordOk t w)=0 then(judgeS (difR t w.time.toNat w.chamber.toNat w.time.toNat (w.chamber.toNat+1)) w,0)else(0,openT t (wordOk t w))
set_option maxHeartbeats 1000000 in
theorem e_Judge(t:CTrap)(hs:ShortT t)(hB:trapB t=true)(w:CWord)(lab s):den T 83 [.agg (vT t), .agg [i64 w.time,i64 w.chamber,i64 w.lo,i64 w.hi]] lab s=some (.tup [i64 (judgeC t w).1,i64 (judgeC t w).2],s):=by
 have hp:=fun lab s=>e_isWord t (trapB_mid hB) w lab s
 unfold judgeC
 rw[den_fn t83 _ _ _ rfl]
 simp only[b83]
 by_cases h:openT t (wordOk t w)=0
 ·obtain⟨k1,k2,k3⟩:=openT_ok h
  have hok:=trapB_ok k1
  have ho:=fun(F:Ab.Loc) lab hF=>e_open_ok t hs _ h F s lab hF
  have hb:=wordOk_iff.1 k2
  have e1:t.C=t.chambers.toNat:=rfl
  have e2:t.T=t.times.toNat:=rfl
  have et:((w.time.toNat:Nat):Int)=w.time:=by omega
  have ec:((w.chamber.toNat:Nat):Int)=w.chamber:=by omega
  have hf:=fun(F:Ab.Loc) (hF:Loc.get F 224=some (.cell (trapV t (setB t)))) lab=>e_fish t hok s.length 224 w.time.toNat w.chamber.toNat (by omega) (by omega) (F::s) (by simp) (by simp[hF]) lab
  rw[betw_eq hok k3 (by omega) (by omega) (by omega) (by omega),et,ec]at hf
  rw[if_pos h]
  rw[k2]at ho
  unfold judgeS
  generalize difR t w.time.toNat w.chamber.toNat w.time.toNat (w.chamber.toNat+1)=b at*
  generalize setB t=B at*
  obtain⟨b1,b2⟩:=b
  obtain⟨t0,t1,t2,t3⟩:=w
  dsimp only at*
  by_cases q1:t2≤b1
  ·by_cases q2:b2≤t3
   ·simp (maxSteps:=1000000) (disch:=first|omega|assumption|decide +kernel|(simp;done)|(simp;omega)|fail) [orSlow_none,hp,k2,ho,hf,q1,q2]
   ·by_cases q3:t3<b1
    ·simp (maxSteps:=1000000) (disch:=first|omega|assumption|decide +kernel|(simp;done)|(simp;omega)|fail) [orSlow_none,hp,k2,ho,hf,q1,q2,q3]
    ·by_cases q4:b2<t2<;>simp (maxSteps:=1000000) (disch:=first|omega|assumption|decide +kernel|(simp;done)|(simp;omega)|fail) [orSlow_none,hp,k2,ho,hf,q1,q2,q3,q4]
  ·by_cases q3:t3<b1
   ·simp (maxSteps:=1000000) (disch:=first|omega|assumption|decide +kernel|(simp;done)|(simp;omega)|fail) [orSlow_none,hp,k2,ho,hf,q1,q3]
   ·by_cases q4:b2<t2<;>simp (maxSteps:=1000000) (disch:=first|omega|assumption|decide +kernel|(simp;done)|(simp;omega)|fail) [orSlow_none,hp,k2,ho,hf,q1,q3,q4]
 ·have ho:=fun(F:Ab.Loc) lab=>e_open_no t hs _ h F s lab
  rw[if_neg h]
  generalize wordOk t w=p at*
  simp (maxSteps:=1000000) (disch:=first|omega|assumption|decide +kernel|(simp;done)|(simp;omega)|fail) [orSlow_none,hp,ho,h]
end Go.Proofs.YthghcainodgnkaaGreat

/-
  Watch: counts.Truth, hasTruth (not built yet).
-/
namespace Go.Proofs.YthghcainodgnkaaGreat
open Go.Ab
def rowT(t:CTrap)(i c:Nat):Int:=(betwS (setB t) 0 (nodeN t.C i c)).lo-(betwS (setB t) 0 (nodeN t.C i (c+1))).lo
def rowTS(t:CTrap)(i:Nat)(R:List Int)(c:Nat):List Int:=R.set c (rowT t i c)
def rowTL(t:CTrap)(i:Nat):List Int:=(List.range t.C).foldl (rowTS t i) (List.replicate t.C 0)
theorem rowTS_len(t:CTrap)(i:Nat): ∀(l:List Nat) (R:List Int),(l.foldl (rowTS t i) R).length=R.length
 |[],_=>rfl
 |c::l,R=>by rw[List.foldl_cons,rowTS_len t i l];simp[rowTS]
@[simp] theorem rowTL_len(t i):(rowTL t i).length=t.C:=by unfold rowTL;rw[rowTS_len];simp
set_option maxHeartbeats 2000000 in
theorem e_Tr_l1(t:CTrap)(h:TrapOk t)(i:Nat)(hi0:i<t.T)(L:List (List Int))(s:Stk):
 Run T b69l1 [(4, .ptr s.length 192 0),(6, .sl (.own s.length 97) 1 (es cInts L)),(7,i64 i),(8, .asl s.length 496 1 t.C 0 t.C),(22,i64 t.times),(23,i64 i),(33,i64 t.C),(34,i64 0)] ([(16, .cell (vT t)),(192, .cell (trapV t (setB t))),(97, .tok L.length),(496, .arr 1 (es cInt (List.replicate t.C 0)))]::s)=some (.exit 2,[(4, .ptr s.length 192 0),(6, .sl (.own s.length 97) 1 (es cInts L)),(7,i64 i),(8, .asl s.length 496 1 t.C 0 t.C),(22,i64 t.times),(23,i64 i),(33,i64 t.C),(34,i64 ((List.range t.C).length:Nat)),(35, .bool false)],[(16, .cell (vT t)),(192, .cell (trapV t (setB t))),(97, .tok L.length),(496, .arr 1 (es cInt ((List.range t.C).foldl (rowTS t i) (List.replicate t.C 0))))]::s):=by
 have key:=loop_fold (T:=T) (live:=[4,6,7,8,22,23,33,34]) (keep:=[16,97,192,496,1008,1024]) (b:=d69l1) (List.range t.C) (fun _ R=>R.length=t.C) (rowTS t i) (fun k (a:List Int)=>[(4, .ptr s.length 192 0),(6, .sl (.own s.length 97) 1 (es cInts L)),(7,i64 i),(8, .asl s.length 496 1 t.C 0 t.C),(22,i64 t.times),(23,i64 i),(33,i64 t.C),(34,i64 (k:Nat))]) (fun k (a:List Int)=>[(16, .cell (vT t)),(192, .cell (trapV t (setB t))),(97, .tok L.length),(496, .arr 1 (es cInt a))]::s) (fun(a:List Int)=>(.exit 2,[(4, .ptr s.length 192 0),(6, .sl (.own s.length 97) 1 (es cInts L)),(7,i64 i),(8, .asl s.length 496 1 t.C 0 t.C),(22,i64 t.times),(23,i64 i),(33,i64 t.C),(34,i64 ((List.range t.C).length:Nat)),(35, .bool false)],[(16, .cell (vT t)),(192, .cell (trapV t (setB t))),(97, .tok L.length),(496, .arr 1 (es cInt a))]::s)) (by simp) ?_ ?_ ?_ (List.replicate t.C 0) (by simp) [(4, .ptr s.length 192 0),(6, .sl (.own s.length 97) 1 (es cInts L)),(7,i64 i),(8, .asl s.length 496 1 t.C 0 t.C),(22,i64 t.times),(23,i64 i),(33,i64 t.C),(34,i64 0)] ([(16, .cell (vT t)),(192, .cell (trapV t (setB t))),(97, .tok L.length),(496, .arr 1 (es cInt (List.replicate t.C 0)))]::s) (by simp) (by simp)
 ·exact key
 ·intro k a hk hi
  try simp only[List.length_range]at hk
  try simp only[List.getElem_range]
  have hc:=h.cc
  have e1:t.C=t.chambers.toNat:=rfl
  have hk2:(k:Int)<t.C:=by omega
  have hka:k<a.length:=by omega
  have b1:=node_lt h hi0 (Nat.le_of_lt hk)
  have b2:=node_lt h hi0 (show k+1≤t.C from hk)
  have n1:=fun(F:Ab.Loc) (hF:Loc.get F 192=some (.cell (trapV t (setB t)))) lab=>e_nodeI t (setB t) h s.length 192 i k hi0 (Nat.le_of_lt hk) i k rfl rfl (F::s) (by simp) (by simp[hF]) lab
  have n2:=fun(F:Ab.Loc) (hF:Loc.get F 192=some (.cell (trapV t (setB t)))) lab=>e_nodeI t (setB t) h s.length 192 i (k+1) hi0 (show k+1≤t.C from hk) i ((k:Int)+1) rfl rfl (F::s) (by simp) (by simp[hF]) lab
  have q1:=fun(F:Ab.Loc) (hF:Loc.get F 192=some (.cell (trapV t (setB t)))) lab=>e_betw t 0 (nodeN t.C i k) (by decide) b1 s.length 192 (setB t) (setB_mag h) (F::s) (by simp) (by simp[hF]) lab
  have q2:=fun(F:Ab.Loc) (hF:Loc.get F 192=some (.cell (trapV t (setB t)))) lab=>e_betw t 0 (nodeN t.C i (k+1)) (by decide) b2 s.length 192 (setB t) (setB_mag h) (F::s) (by simp) (by simp[hF]) lab
  simp only[show((0:Nat):Int)=0 from rfl]at q1 q2
  have m1: -10000000000000000≤gB (setB t) (nodeN t.C i k) 0∧gB (setB t) (nodeN t.C i k) 0≤1048576:=⟨(setB_mag h).lo _ _ b1 (by decide),(setB_mag h).hi _ _ b1 (by decide)⟩
  have m2: -10000000000000000≤gB (setB t) (nodeN t.C i (k+1)) 0∧gB (setB t) (nodeN t.C i (k+1)) 0≤1048576:=⟨(setB_mag h).lo _ _ b2 (by decide),(setB_mag h).hi _ _ b2 (by decide)⟩
  have m3:(betwS (setB t) 0 (nodeN t.C i k)).lo= -gB (setB t) (nodeN t.C i k) 0:=rfl
  have m4:(betwS (setB t) 0 (nodeN t.C i (k+1))).lo= -gB (setB t) (nodeN t.C i (k+1)) 0:=rfl
  have w1:IntKind.i64.wrap ((k:Int)+1)=(k:Int)+1:=wi _ (by omega) (by omega)
  unfold rowTS rowT
  have w2:IntKind.i64.wrap ((betwS (setB t) 0 (nodeN t.C i k)).lo-(betwS (setB t) 0 (nodeN t.C i (k+1))).lo)=(betwS (setB t) 0 (nodeN t.C i k)).lo-(betwS (setB t) 0 (nodeN t.C i (k+1))).lo:=wi _ (by omega) (by omega)
  have hset: ∀x:Int,(es cInt a).set k [i64 x]=es cInt (a.set k x):=fun x=>by simp[es,List.map_set]
  clear m1 m2 m3 m4
  clear e1
  generalize betwS (setB t) 0 (nodeN t.C i k)=x at*
  generalize betwS (setB t) 0 (nodeN t.C i (k+1))=y at*
  generalize nodeN t.C i k=u at*
  generalize nodeN t.C i (k+1)=v at*
  generalize setB t=B at*
  generalize t.C=C at*
  obtain⟨x1,x2⟩:=x
  obtain⟨y1,y2⟩:=y
  dsimp only at*
  simp (maxSteps:=1000000) (disch:=first|omega|assumption|decide +kernel|(simp;done)|(simp;omega)|fail) [run_drawnK,hk,hk2,hka,hi,n1,n2,q1,q2,w1,w2,hset]
 ·intro k a hk hi
  try simp only[List.length_range]at hk
  try simp only[List.getElem_range]
  simp[rowTS,hi]
 ·intro a hi
  simp
set_option maxHeartbeats 2000000 in
theorem e_Tr_l0(t:CTrap)(h:TrapOk t)(s:Stk):
 Run T b69l0 [(6, .sl (.own s.length 97) 1 []),(4, .ptr s.length 192 0),(6, .sl .full 1 []),(22,i64 t.times),(23,i64 0)] ([(16, .cell (vT t)),(192, .cell (trapV t (setB t))),(97, .tok 0)]::s)=some (.exit 0,[(4, .ptr s.length 192 0),(6, .sl (.own s.length 97) 1 (es cInts ((List.range t.T).foldl (fun L i=>L ++[rowTL t i]) ([]:List (List Int))))),(22,i64 t.times),(23,i64 ((List.range t.T).length:Nat)),(24, .bool false)],[(16, .cell (vT t)),(192, .cell (trapV t (setB t))),(97, .tok (((List.range t.T).foldl (fun L i=>L ++[rowTL t i]) ([]:List (List Int)))).length)]::s):=by
 have key:=loop_fold (T:=T) (live:=[4,6,22,23]) (keep:=[16,97,192]) (b:=d69l0) (List.range t.T) (fun k L=>L.length=k) (fun L i=>L ++[rowTL t i]) (fun k (a:List (List Int))=>[(4, .ptr s.length 192 0),(6, .sl (.own s.length 97) 1 (es cInts a)),(22,i64 t.times),(23,i64 (k:Nat))]) (fun k (a:List (List Int))=>[(16, .cell (vT t)),(192, .cell (trapV t (setB t))),(97, .tok (a).length)]::s) (fun(a:List (List Int))=>(.exit 0,[(4, .ptr s.length 192 0),(6, .sl (.own s.length 97) 1 (es cInts a)),(22,i64 t.times),(23,i64 ((List.range t.T).length:Nat)),(24, .bool false)],[(16, .cell (vT t)),(192, .cell (trapV t (setB t))),(97, .tok (a).length)]::s)) (by simp) ?_ ?_ ?_ ([]:List (List Int)) (by simp) [(6, .sl (.own s.length 97) 1 []),(4, .ptr s.length 192 0),(6, .sl .full 1 []),(22,i64 t.times),(23,i64 0)] ([(16, .cell (vT t)),(192, .cell (trapV t (setB t))),(97, .tok 0)]::s) (by simp) (by simp)
 ·exact key
 ·intro k a hk hi
  try simp only[List.length_range]at hk
  try simp only[List.getElem_range]
  have hc:=h.cc
  have ht:=h.tt
  have e1:t.C=t.chambers.toNat:=rfl
  have e2:t.T=t.times.toNat:=rfl
  have hk2:(k:Int)<t.times:=by omega
  have eC:t.chambers=((t.C:Nat):Int):=by omega
  have h1:=e_Tr_l1 t h k hk a s
  rw[show(List.range t.C).foldl (rowTS t k) (List.replicate t.C 0)=rowTL t k from rfl]at h1
  simp only[List.length_range]at h1
  have l3:List.replicate t.C [i64 0]=es cInt (List.replicate t.C 0):=by simp[es]
  have hlen:=rowTL_len t k
  have htake:(es cInt (rowTL t k)).take t.C=es cInt (rowTL t k):=List.take_of_length_le (by simp)
  have q1:(a.length+1)*24≤140737488355328:=by omega
  have q2:a.length+1<140737488355328:=by omega
  have q3:es cInts a ++[[.sl .no 1 (es cInt (rowTL t k))]]=es cInts (a ++[rowTL t k]):=by simp[es]
  have q4:(t.C:Int)<140737488355328:=by omega
  have q5:(t.C:Int)*8≤140737488355328:=by omega
  have q6: ¬(140737488355328:Int)<t.C*8:=by omega
  have q7: ¬(140737488355328:Int)≤t.C:=by omega
  rw[hi]at h1
  generalize rowTL t k=row at*
  have hCpos:0<t.C:=by omega
  clear e1 e2 ht
  generalize setB t=B at*
  obtain⟨ch,ti,op,wo⟩:=t
  obtain⟨C,rfl⟩: ∃C:Nat,ch=(C:Int):=⟨ch.toNat,by simp only at hc;omega⟩
  have eD:CTrap.C ⟨(C:Int),ti,op,wo⟩=C:=by simp[CTrap.C]
  simp only[eD]at*
  simp (maxSteps:=1000000) (disch:=first|omega|assumption|decide +kernel|(simp;done)|(simp;omega)|fail) [hk2,hi,h1,l3,hlen,htake,appK_own1,q1,q2,q3,q4,q5,q6,q7,eC,wk k (by omega)]
 ·intro k a hk hi
  try simp only[List.length_range]at hk
  try simp only[List.getElem_range]
  simp[hi]
 ·intro a hi
  have ht:=h.tt
  have e2:t.T=t.times.toNat:=rfl
  have hk3:((t.T:Nat):Int)=t.times:=by omega
  simp only[List.length_range,hk3]
  simp
end Go.Proofs.YthghcainodgnkaaGreat

/-
  Watch: counts.Truth and hasTruth.
-/
namespace Go.Proofs.YthghcainodgnkaaGreat
open Go.Ab
def rowsT(t:CTrap):List (List Int):=(List.range t.T).foldl (fun L i=>L ++[rowTL t i]) []
theorem rowsT_len(t):(rowsT t).length=t.T:=by
 unfold rowsT
 have: ∀(l:List Nat) (a:List (List Int)),(l.foldl (fun L i=>L ++[rowTL t i]) a).length=a.length+l.length:=fun l=>by
  induction l with
  |nil=>simp
  |cons x l ih=>intro a;rw[List.foldl_cons,ih];simp;omega
 rw[this];simp
def truthV(t:CTrap):V:=if openT t true=0 then .sl .no 1 (es cInts (rowsT t))else .sl .no 1 []
set_option maxHeartbeats 1000000 in
theorem e_Truth(t:CTrap)(hs:ShortT t)(lab s):den T 69 [.agg (vT t)] lab s=some (.tup [truthV t,i64 (openT t true)],s):=by
 unfold truthV
 rw[den_fn t69 _ _ _ rfl]
 simp only[b69]
 by_cases h:openT t true=0
 ·obtain⟨k1,k2,k3⟩:=openT_ok h
  have hok:=trapB_ok k1
  have ho:=fun(F:Ab.Loc) lab hF=>e_open_ok t hs true h F s lab hF
  have hl:=e_Tr_l0 t hok s
  rw[show(List.range t.T).foldl (fun L i=>L ++[rowTL t i]) []=rowsT t from rfl]at hl
  simp only[List.length_range]at hl
  have hr:=rowsT_len t
  have hd: ¬t.T<0:=by omega
  rw[if_pos h,h]
  generalize rowsT t=R at*
  generalize setB t=B at*
  generalize t.T=n at*
  simp (maxSteps:=1000000) (disch:=first|omega|assumption|decide +kernel|(simp;done)|(simp;omega)|fail) [orSlow_none,ho,hl,hr]
 ·have ho:=fun(F:Ab.Loc) lab=>e_open_no t hs true h F s lab
  rw[if_neg h]
  simp (maxSteps:=1000000) (disch:=first|omega|assumption|decide +kernel|(simp;done)|(simp;omega)|fail) [orSlow_none,ho,h]
theorem e_hasTruth(t:CTrap)(hs:ShortT t)(lab s):den T 122 [.agg (vT t)] lab s=some (.bool (decide (openT t true=0)),s):=by
 have h:=fun lab s=>e_Truth t hs lab s
 unfold truthV at h
 rw[den_fn t122 _ _ _ rfl]
 simp only[b122]
 by_cases h0:openT t true=0
 ·rw[if_pos h0]at h
  simp (disch:=first|omega|assumption|decide +kernel|(simp;done)|(simp;omega)|fail) [h,h0]
 ·rw[if_neg h0]at h
  simp (disch:=first|omega|assumption|decide +kernel|(simp;done)|(simp;omega)|fail) [h,h0]
end Go.Proofs.YthghcainodgnkaaGreat

/-
  Watch: the reference of counts: a matrix of spans in a lower frame; cut and differ.
-/
namespace Go.Proofs.YthghcainodgnkaaGreat
open Go.Ab
theorem put_comm: ∀(F:Ab.Loc) (k l:Nat) (x y:Entry),k≠l→(Loc.get F l).isSome=true→Loc.put (Loc.put F k x) l y=Loc.put (Loc.put F l y) k x
 |[],k,l,x,y,_,h=>by simp[Loc.get]at h
 |(m,z)::F,k,l,x,y,hn,h=>by
   by_cases e:l=m
   ·subst e
    simp[Loc.put,hn]
   ·simp only[Loc.get,if_neg e]at h
    by_cases e2:k=m
    ·subst e2;simp[Loc.put,e]
    ·simp only[Loc.put,if_neg e,if_neg e2,put_comm F k l x y hn h]
theorem sput_comm: ∀(s:Stk) (d k l:Nat) (x y:Entry),k≠l→(sget s d l).isSome=true→sput (sput s d k x) d l y=sput (sput s d l y) d k x
 |[],_,_,_,_,_,_,_=>rfl
 |F::s,d,k,l,x,y,hn,h=>by
   by_cases e:d=s.length
   ·simp only[sget,if_pos e]at h
    simp only[sput,if_pos e,put_comm F k l x y hn h]
   ·simp only[sget,if_neg e]at h
    simp only[sput,sput_length,if_neg e,sput_comm s d k l x y hn h]
theorem sget_put_other: ∀(s:Stk) (d k l:Nat) (x:Entry),l≠k→sget (sput s d k x) d l=sget s d l
 |[],_,_,_,_,_=>rfl
 |F::s,d,k,l,x,hn=>by
   by_cases e:d=s.length
   ·simp only[sget,sput,if_pos e]
    have: ∀F:Ab.Loc,Loc.get (Loc.put F k x) l=Loc.get F l:=fun F=>by
     induction F with
     |nil=>simp[Loc.put,Loc.get,hn]
     |cons a F ih=>
       obtain⟨m,z⟩:=a
       by_cases e1:k=m
       ·subst e1;simp[Loc.put,Loc.get,hn]
       ·by_cases e2:l=m
        ·subst e2;simp[Loc.put,Loc.get,e1]
        ·simp only[Loc.put,Loc.get,if_neg e1,if_neg e2,ih]
    exact this F
   ·simp only[sget,sput,sput_length,if_neg e,sget_put_other s d k l x hn]
def putM(s:Stk)(d:Nat):Nat→CMat→Stk
 |_,[]=>s
 |b,r::R=>sput (putM s d (b+1000) R) d b (.arr 2 (es cCSp r))
@[simp] theorem putM_length(s d): ∀(R:CMat) (b:Nat),(putM s d b R).length=s.length
 |[],_=>rfl
 |r::R,b=>by rw[putM,sput_length,putM_length s d R]
theorem sget_putM {s:Stk} {d:Nat}(hd:d<s.length): ∀(R:CMat) (b i:Nat),i<R.length→sget (putM s d b R) d (b+1000*i)=some (.arr 2 (es cCSp (R.getD i [])))
 |r::R,b,0,_=>by
   rw[putM]
   exact sget_put_same _ _ _ (by simpa using hd)
 |r::R,b,i+1,h=>by
   rw[putM,sget_put_other _ _ _ _ _ (by omega),show b+1000*(i+1)=b+1000+1000*i by omega,sget_putM hd R (b+1000) i (by simpa using h)]
   rfl
theorem sget_putM_no {s:Stk} {d:Nat}: ∀(R:CMat) (b k:Nat),(∀i,i<R.length→k≠b+1000*i)→sget (putM s d b R) d k=sget s d k
 |[],_,_,_=>rfl
 |r::R,b,k,h=>by
   rw[putM,sget_put_other _ _ _ _ _ (by have:=h 0 (by simp);omega),sget_putM_no R (b+1000) k fun i hi=>by have:=h (i+1) (by simpa using hi);omega]
theorem sput_putM {s:Stk} {d:Nat}(hd:d<s.length): ∀(R:CMat) (b i:Nat) (r:List CSp),i<R.length→sput (putM s d b R) d (b+1000*i) (.arr 2 (es cCSp r))=putM s d b (R.set i r)
 |r0::R,b,0,r,_=>by
   rw[putM,List.set_cons_zero,putM]
   exact sput_twice _ _ _ _ _
 |r0::R,b,i+1,r,h=>by
   have hi:i<R.length:=by simpa using h
   have e:b+1000*(i+1)=b+1000+1000*i:=by omega
   have ih:=sput_putM hd R (b+1000) i r hi
   rw[putM,e,sput_comm _ _ _ _ _ _ (by omega) (by rw[sget_putM hd R (b+1000) i hi];rfl),ih]
   rfl
theorem putM_cons {F:Ab.Loc} {s:Stk} {d:Nat}(hd:d≠s.length): ∀(R:CMat) (b:Nat),putM (F::s) d b R=F::putM s d b R
 |[],_=>rfl
 |r::R,b=>by rw[putM,putM,putM_cons hd R];simp[sput,hd]
def ptrM(d l z n:Nat):List (List V):=(List.range n).map fun i=>[.asl d (l+1000*i) 2 z 0 z]
@[simp] theorem ptrM_length(d l z n):(ptrM d l z n).length=n:=by simp[ptrM]
@[simp] theorem ptrM_get? (d l z n i:Nat):(ptrM d l z n)[i]? =if i<n then some [.asl d (l+1000*i) 2 z 0 z] else none:=by
 unfold ptrM;rw[List.getElem?_map]
 by_cases h:i<n<;>simp[h]
@[simp] theorem ptrM_get(d l z n i:Nat)(h:i<(ptrM d l z n).length):(ptrM d l z n)[i]=[.asl d (l+1000*i) 2 z 0 z]:=by simp[ptrM]
theorem e_cut(a b:CSp)(lab s):den T 149 [.agg [i64 a.lo,i64 a.hi], .agg [i64 b.lo,i64 b.hi]] lab s=some (.agg [i64 (cutS a b).lo,i64 (cutS a b).hi],s):=by
 obtain⟨a1,a2⟩:=a
 obtain⟨b1,b2⟩:=b
 unfold cutS
 rw[den_fn t149 _ _ _ rfl]
 simp only[b149]
 simp (disch:=first|omega|assumption|decide +kernel|(simp;done)|(simp;omega)|fail) []
end Go.Proofs.YthghcainodgnkaaGreat

/-
  Watch: the reference's differ.
-/
namespace Go.Proofs.YthghcainodgnkaaGreat
open Go.Ab
def rowV(S:CMat)(i:Nat):List (List V):=es cCSp (S.getD i [])
theorem rowV_len {T C S}(h:Shape T C S) {i:Nat}(hi:i<T):(rowV S i).length=C+1:=by
 unfold rowV;rw[es_length,h.row i hi]
theorem rowV_get {T C S}(h:Shape T C S) {i c:Nat}(hi:i<T)(hc:c≤C):(rowV S i)[c]? =some [i64 (atS S i c).lo,i64 (atS S i c).hi]:=by
 have hr:=h.row i hi
 have:c<(S.getD i []).length:=by omega
 unfold rowV atS
 generalize S.getD i []=r at*
 simp[es,List.getD,this]
theorem rowV_sget {T C S}(h:Shape T C S) {s:Stk} {d b i:Nat}(hd:d<s.length)(hi:i<T):sget (putM s d b S) d (b+1000*i)=some (.arr 2 (rowV S i)):=sget_putM hd S b i (by rw[h.len];exact hi)
theorem rowV_sput {T C S}(h:Shape T C S) {s:Stk} {d b i:Nat}(hd:d<s.length)(hi:i<T)(c:Nat)(x:CSp):sput (putM s d b S) d (b+1000*i) (.arr 2 ((rowV S i).set c [i64 x.lo,i64 x.hi]))=putM s d b (putS S i c x):=by
 have:(rowV S i).set c [i64 x.lo,i64 x.hi]=es cCSp ((S.getD i []).set c x):=by
  unfold rowV
  generalize S.getD i []=r
  simp[es,List.map_set]
 rw[this]
 exact sput_putM hd S b i _ (by rw[h.len];exact hi)
def BigS(T C:Nat)(M:Int)(S:CMat):Prop:= ∀i c,i<T→c≤C→(-M≤(atS S i c).lo∧(atS S i c).lo≤M)∧ -M≤(atS S i c).hi∧(atS S i c).hi≤M
set_option maxHeartbeats 8000000 in
theorem e_differ(T0 C:Nat)(hT:T0≤5)(hC:C≤4)(S:CMat)(hS:Shape T0 C S)(hB:BigS T0 C 1000000 S)(k:Dif)(hk:k.Ok T0 C)(d l b:Nat)(s:Stk)(hd:d<s.length)(hl: ∀i,i<T0→l≠b+1000*i)(hs:sget s d l=some (.arr 1 (ptrM d b (C+1) T0)))(ai ac aj ad:Int)(h1:ai=k.i)(h2:ac=k.c)(h3:aj=k.j)(h4:ad=k.d)(lab):
 den T 118 [.asl d l 1 T0 0 T0,i64 ai,i64 ac,i64 aj,i64 ad,i64 k.lo,i64 k.hi] lab (putM s d b S)=some (.bool (difC S k),putM s d b (difS S k)):=by
 subst h1;subst h2;subst h3;subst h4
 have hd2: ¬d=s.length:=by omega
 have ki:=hk.i
 have kj:=hk.j
 have kc:=hk.c
 have kd:=hk.d
 have klo:=hk.lo
 have khi:=hk.hi
 have kne:=hk.ne
 have f1:(k.i:Int)<T0:=by omega
 have f2:(k.j:Int)<T0:=by omega
 have f3:(k.c:Int)<(C:Int)+1:=by omega
 have f4:(k.d:Int)<(C:Int)+1:=by omega
 have f5:k.c<C+1:=by omega
 have f6:k.d<C+1:=by omega
 have ba:=hB k.i k.c ki (Nat.le_of_lt kc)
 have bb:=hB k.j k.d kj kd
 have hS1:=hS.put (c:=k.c) (x:=difA (atS S k.i k.c) (atS S k.j k.d) k.lo k.hi) ki
 have hS2:=difS_shape hS hk
 have g0: ∀R:CMat,Shape T0 C R→sget (putM s d b R) d l=some (.arr 1 (ptrM d b (C+1) T0)):=fun R hR=>by
  rw[sget_putM_no R b l fun i hi=>hl i (by rw[hR.len]at hi;exact hi)];exact hs
 have z0:=g0 S hS
 have z1:=g0 _ hS1
 have z2:=g0 _ hS2
 have p1:=rowV_sget hS (b:=b) hd ki
 have p2:=rowV_sget hS (b:=b) hd kj
 have p3:=rowV_sget hS1 (b:=b) hd kj
 have p4:=rowV_sget hS2 (b:=b) hd ki
 have p5:=rowV_sget hS2 (b:=b) hd kj
 have q1:=rowV_get hS ki (Nat.le_of_lt kc)
 have q2:=rowV_get hS kj kd
 have q3:=rowV_get hS1 kj kd
 have q4:=rowV_get hS2 ki (Nat.le_of_lt kc)
 have q5:=rowV_get hS2 kj kd
 have n1:=rowV_len hS ki
 have n2:=rowV_len hS kj
 have n3:=rowV_len hS1 kj
 have n4:=rowV_len hS2 ki
 have n5:=rowV_len hS2 kj
 have u1:=rowV_sput hS (b:=b) hd ki k.c (difA (atS S k.i k.c) (atS S k.j k.d) k.lo k.hi)
 have u2:=rowV_sput hS1 (b:=b) hd kj k.d (difB (atS S k.i k.c) (atS S k.j k.d) k.lo k.hi)
 rw[show putS (putS S k.i k.c (difA (atS S k.i k.c) (atS S k.j k.d) k.lo k.hi)) k.j k.d (difB (atS S k.i k.c) (atS S k.j k.d) k.lo k.hi)=difS S k from rfl]at u2
 rw[difS_at hS hk ki,if_neg kne,if_pos ⟨rfl,rfl⟩]at q4
 rw[difS_at hS hk kj,if_pos ⟨rfl,rfl⟩]at q5
 rw[hS.at_put ki (Nat.le_of_lt kc) kj,if_neg (by omega)]at q3
 have c1:=fun lab s=>e_cut (atS S k.i k.c) ⟨(atS S k.j k.d).lo+k.lo,(atS S k.j k.d).hi+k.hi⟩ lab s
 have c2:=fun lab s=>e_cut (atS S k.j k.d) ⟨(atS S k.i k.c).lo-k.hi,(atS S k.i k.c).hi-k.lo⟩ lab s
 rw[show cutS (atS S k.i k.c) ⟨(atS S k.j k.d).lo+k.lo,(atS S k.j k.d).hi+k.hi⟩=difA (atS S k.i k.c) (atS S k.j k.d) k.lo k.hi from rfl]at c1
 rw[show cutS (atS S k.j k.d) ⟨(atS S k.i k.c).lo-k.hi,(atS S k.i k.c).hi-k.lo⟩=difB (atS S k.i k.c) (atS S k.j k.d) k.lo k.hi from rfl]at c2
 unfold difC
 have w1:IntKind.i64.wrap ((atS S k.j k.d).lo+k.lo)=(atS S k.j k.d).lo+k.lo:=wi _ (by omega) (by omega)
 have w2:IntKind.i64.wrap ((atS S k.j k.d).hi+k.hi)=(atS S k.j k.d).hi+k.hi:=wi _ (by omega) (by omega)
 have w3:IntKind.i64.wrap ((atS S k.i k.c).lo-k.hi)=(atS S k.i k.c).lo-k.hi:=wi _ (by omega) (by omega)
 have w4:IntKind.i64.wrap ((atS S k.i k.c).hi-k.lo)=(atS S k.i k.c).hi-k.lo:=wi _ (by omega) (by omega)
 clear hS1 hS2 g0 hB hS hl hs ba bb kne ki kj kc kd klo khi hk
 generalize difA (atS S k.i k.c) (atS S k.j k.d) k.lo k.hi=x at*
 generalize difB (atS S k.i k.c) (atS S k.j k.d) k.lo k.hi=y at*
 generalize atS S k.i k.c=u at*
 generalize atS S k.j k.d=v at*
 generalize hS2e:difS S k=S2 at*
 generalize putS S k.i k.c x=S1 at*
 generalize rowV S k.i=L1 at*
 generalize rowV S k.j=L2 at*
 generalize rowV S1 k.j=L3 at*
 generalize rowV S2 k.i=L4 at*
 generalize rowV S2 k.j=L5 at*
 clear hS2e
 obtain⟨ki,kc,kj,kd,klo,khi⟩:=k
 dsimp only at*
 obtain⟨u1',u2'⟩:=u
 obtain⟨v1',v2'⟩:=v
 obtain⟨x1,x2⟩:=x
 obtain⟨y1,y2⟩:=y
 dsimp only at*
 obtain⟨_,q1⟩:=List.getElem?_eq_some_iff.1 q1
 obtain⟨_,q2⟩:=List.getElem?_eq_some_iff.1 q2
 obtain⟨_,q3⟩:=List.getElem?_eq_some_iff.1 q3
 obtain⟨_,q4⟩:=List.getElem?_eq_some_iff.1 q4
 obtain⟨_,q5⟩:=List.getElem?_eq_some_iff.1 q5
 rw[den_fn t118 _ _ _ rfl]
 simp only[b118]
 by_cases e1:x1=u1'
 ·by_cases e2:x2=u2'
  ·subst e1;subst e2
   by_cases e3:y1=v1'
   ·by_cases e4:y2=v2'
    ·subst e3;subst e4
     simp (maxSteps:=1000000) (disch:=first|omega|assumption|decide +kernel|(simp;done)|(simp;omega)|fail) [run_drawnK,orSlow_none,hd2,f1,f2,f3,f4,f5,f6,z0,z1,z2,p1,p2,p3,p4,p5,q1,q2,q3,q4,q5,n1,n2,n3,n4,n5,u1,u2,c1,c2,w1,w2,w3,w4]
    ·subst e3
     simp (maxSteps:=1000000) (disch:=first|omega|assumption|decide +kernel|(simp;done)|(simp;omega)|fail) [e4,run_drawnK,orSlow_none,hd2,f1,f2,f3,f4,f5,f6,z0,z1,z2,p1,p2,p3,p4,p5,q1,q2,q3,q4,q5,n1,n2,n3,n4,n5,u1,u2,c1,c2,w1,w2,w3,w4]
   ·simp (maxSteps:=1000000) (disch:=first|omega|assumption|decide +kernel|(simp;done)|(simp;omega)|fail) [e3,run_drawnK,orSlow_none,hd2,f1,f2,f3,f4,f5,f6,z0,z1,z2,p1,p2,p3,p4,p5,q1,q2,q3,q4,q5,n1,n2,n3,n4,n5,u1,u2,c1,c2,w1,w2,w3,w4]
  ·subst e1
   simp (maxSteps:=1000000) (disch:=first|omega|assumption|decide +kernel|(simp;done)|(simp;omega)|fail) [e2,run_drawnK,orSlow_none,hd2,f1,f2,f3,f4,f5,f6,z0,z1,z2,p1,p2,p3,p4,p5,q1,q2,q3,q4,q5,n1,n2,n3,n4,n5,u1,u2,c1,c2,w1,w2,w3,w4]
 ·simp (maxSteps:=1000000) (disch:=first|omega|assumption|decide +kernel|(simp;done)|(simp;omega)|fail) [e1,run_drawnK,orSlow_none,hd2,f1,f2,f3,f4,f5,f6,z0,z1,z2,p1,p2,p3,p4,p5,q1,q2,q3,q4,q5,n1,n2,n3,n4,n5,u1,u2,c1,c2,w1,w2,w3,w4]
end Go.Proofs.YthghcainodgnkaaGreat

/-
  Watch: the reference's settle: its loops over chambers and times.
-/
namespace Go.Proofs.YthghcainodgnkaaGreat
open Go.Ab
theorem foldB_run {α:Type}(f:α→List Item): ∀(l:List α) (a:PS),foldB (fun a x=>runI (f x) a) l a=runI (l.flatMap f) a
 |[],_=>rfl
 |x::l,a=>by
   rw[List.flatMap_cons,runI_append,foldB]
   by_cases h:(runI (f x) a).2=true
   ·rw[if_pos h,if_pos h,foldB_run f l]
   ·rw[if_neg h,if_neg h]
theorem InvS.bigS {T C M S}(h:InvS T C M S)(hM:M≤999000):BigS T C 1000000 S:=fun i c hi hc=>by
 have h1:=h.near.lo i c hi hc
 have h2:=h.near.hi i c hi hc
 have h3:=h.big i c hi hc
 omega
theorem InvS.chk {T C M S}(h:InvS T C M S)(hM:M≤999000):InvS T C 999000 S:=h.weaken hM
theorem e_differ'(t:CTrap)(hc:t.C≤4)(ht:t.T≤5)(S:CMat) {M:Int}(hI:InvS t.T t.C M S)(hM:M≤999000)(i c j e:Nat)(lo hi:Int)(hk:Dif.Ok t.T t.C ⟨i,c,j,e,lo,hi⟩)(d l b:Nat)(F:Ab.Loc)(s:Stk)(hd:d<s.length)(hl: ∀i,i<t.T→l≠b+1000*i)(hs:sget s d l=some (.arr 1 (ptrM d b (t.C+1) t.T)))(ai ac aj ad:Int)(h1:ai=i)(h2:ac=c)(h3:aj=j)(h4:ad=e)(lab):
 den T 118 [.asl d l 1 t.T 0 t.T,i64 ai,i64 ac,i64 aj,i64 ad,i64 lo,i64 hi] lab (F::putM s d b S)=some (.bool (difC S ⟨i,c,j,e,lo,hi⟩),F::putM s d b (difS S ⟨i,c,j,e,lo,hi⟩)):=by
 have:=e_differ t.T t.C ht hc S hI.shape (hI.bigS hM) ⟨i,c,j,e,lo,hi⟩ hk d l b (F::s) (by simp;omega) hl (by rw[sget_cons,if_neg (by omega)];exact hs) ai ac aj ad h1 h2 h3 h4 lab
 rw[putM_cons (by omega),putM_cons (by omega)]at this
 exact this
def chkR:AC:=(.seq ( .region true (spl [⟨(some 26), .mv (.t 1),none,[],[]⟩,⟨(some 27), .mv (.t 6),none,[],[]⟩,⟨(some 28), .idxs 1 (.t 26) (.t 27),none,[0,1],[]⟩,⟨(some 29), .load none (.t 28),none,[2,0,1],[]⟩,⟨(some 30), .mv (.t 7),none,[],[]⟩,⟨(some 31), .idxs 2 (.t 29) (.t 30),none,[3,4,2,0,1],[]⟩,⟨(some 32), .faddr 0 (.t 31),none,[5,3,4,2,0,1],[]⟩,⟨(some 33), .load none (.t 32),none,[6,5,3,4,2,0,1],[]⟩,⟨(some 34), .mv (.t 1),none,[],[]⟩,⟨(some 35), .mv (.t 6),none,[],[]⟩,⟨(some 36), .idxs 1 (.t 34) (.t 35),none,[8,9],[]⟩,⟨(some 37), .load none (.t 36),none,[10,8,9],[]⟩,⟨(some 38), .mv (.t 7),none,[],[]⟩,⟨(some 39), .idxs 2 (.t 37) (.t 38),none,[11,12,10,8,9],[]⟩,⟨(some 40), .faddr 1 (.t 39),none,[13,11,12,10,8,9],[]⟩,⟨(some 41), .load none (.t 40),none,[14,13,11,12,10,8,9],[]⟩] [⟨(some 42), .bin .gtr (.t 33) (.t 41),none,[7,15,6,5,3,4,2,0,1,14,13,11,12,10,8,9],[]⟩]) [1,2,5,6,7,42]) ( .cond (.t 42) ( .seq ( .region false [⟨(some 4), .mv (.c (.bool false)),none,[],[]⟩] [4]) ( .ret)) ( .skip)))
def restR:AC:=(.seq ( .region false [⟨(some 43), .mv (.t 1),none,[],[]⟩,⟨(some 44), .mv (.t 6),none,[],[]⟩,⟨(some 45), .mv (.t 7),none,[],[]⟩,⟨(some 46), .mv (.t 6),none,[],[]⟩,⟨(some 47), .mv (.t 7),none,[],[]⟩,⟨(some 48), .bin .add (.t 47) (.c (i64 1)),none,[],[]⟩,⟨(some 49), .call 118 [(.t 43),(.t 44),(.t 45),(.t 46),(.t 48),(.c (i64 0)),(.c (i64 40))],none,[],[]⟩,⟨(some 50), .mv (.t 49),none,[],[]⟩,⟨(some 51), .mv (.t 5),(some (50,false)),[],[]⟩,⟨(some 52), .pick (.t 50) (.c (.bool true)) (.t 51),none,[],[]⟩,⟨(some 5), .mv (.t 52),none,[],[]⟩] [1,2,5,6,7]) ( .seq ( .seq ( .region false [⟨(some 53), .mv (.t 6),none,[],[]⟩,⟨(some 54), .bin .eql (.t 53) (.c (i64 0)),none,[],[]⟩] [1,2,5,6,7,54]) ( .cond (.t 54) ( .exit 5) ( .skip))) ( .seq ( .region false [⟨(some 8), .mv (.c (i64 0)),none,[],[]⟩] [1,2,5,6,7,8]) ( .seq ( .seq ( .region false [⟨(some 55), .faddr 2 (.t 2),none,[],[]⟩,⟨(some 56), .load none (.t 55),none,[],[]⟩,⟨(some 57), .mv (.t 6),none,[],[]⟩,⟨(some 58), .bin .sub (.t 57) (.c (i64 1)),none,[],[]⟩,⟨(some 59), .idxs 1 (.t 56) (.t 58),none,[],[]⟩,⟨(some 60), .load none (.t 59),none,[],[]⟩,⟨(some 61), .mv (.t 7),none,[],[]⟩,⟨(some 62), .call 46 [(.t 60),(.t 61)],none,[],[]⟩] [1,2,5,6,7,8,62]) ( .cond (.t 62) ( .region false [⟨(some 8), .mv (.c (i64 40)),none,[],[]⟩] [1,2,5,6,7,8]) ( .skip))) ( .region false [⟨(some 63), .mv (.t 1),none,[],[]⟩,⟨(some 64), .mv (.t 6),none,[],[]⟩,⟨(some 65), .mv (.t 7),none,[],[]⟩,⟨(some 66), .mv (.t 6),none,[],[]⟩,⟨(some 67), .bin .sub (.t 66) (.c (i64 1)),none,[],[]⟩,⟨(some 68), .mv (.t 7),none,[],[]⟩,⟨(some 69), .mv (.t 8),none,[],[]⟩,⟨(some 70), .call 118 [(.t 63),(.t 64),(.t 65),(.t 67),(.t 68),(.c (i64 0)),(.t 69)],none,[],[]⟩,⟨(some 71), .mv (.t 70),none,[],[]⟩,⟨(some 72), .mv (.t 5),(some (71,false)),[],[]⟩,⟨(some 73), .pick (.t 71) (.c (.bool true)) (.t 72),none,[],[]⟩,⟨(some 5), .mv (.t 73),none,[],[]⟩] [1,2,5,6,7])))))
theorem d_stl_l2:d74l2= .seq (.seq ( .region false [⟨(some 20), .mv (.t 7),none,[],[]⟩,⟨(some 21), .faddr 0 (.t 2),none,[],[]⟩,⟨(some 22), .load none (.t 21),none,[],[]⟩,⟨(some 23), .bin .lss (.t 20) (.t 22),none,[],[]⟩] [1,2,5,6,7,23]) ( .cond (.t 23) ( .skip) ( .exit 4))) (.seq (.block 5 (.seq chkR restR)) (.region false [⟨(some 24), .mv (.t 7),none,[],[]⟩,⟨(some 25), .bin .add (.t 24) (.c (i64 1)),none,[],[]⟩,⟨(some 7), .mv (.t 25),none,[],[]⟩] [1,2,5,6,7])):=rfl
section
variable (t : CTrap) (C n : Nat) (d l b : Nat) (s : Stk) (S : CMat) (hd2 : ¬ d = s.length) (g0 : sget (putM s d b S) d l = some (.arr 1 (ptrM d b (C + 1) n))) (i k : Nat) (hi0 : i < n) (hk : k < C + 1) (L : List (List V)) (g1 : sget (putM s d b S) d (b + 1000 * i) = some (.arr 2 L)) (n1 : L.length = C + 1) (x : CSp) (q1 : L[k]? = some [i64 x.lo, i64 x.hi]) (ch : Bool)
include hd2 g0 hi0 hk g1 n1 q1
set_option maxHeartbeats 2000000 in
theorem e_chk_bad(hx:x.hi<x.lo):Run T chkR [(1, .asl d l 1 n 0 n),(2, .ptr s.length 32 0),(5, .bool ch),(6,i64 i),(7,i64 k),(23, .bool true)] ([(32, .cell (vT t))]::putM s d b S)=some (.ret,[(4, .bool false)],[(32, .cell (vT t))]::putM s d b S):=by
 have hi2:(i:Int)<n:=by omega
 have hk3:(k:Int)<(C:Int)+1:=by omega
 obtain⟨_,q1⟩:=List.getElem?_eq_some_iff.1 q1
 unfold chkR
 simp (maxSteps:=1000000) (disch:=first|omega|assumption|decide +kernel|(simp;done)|(simp;omega)|fail) [run_drawnK,hd2,hi0,hk,hk3,g0,g1,q1,n1,hx]
set_option maxHeartbeats 2000000 in
theorem e_chk_ok(hx: ¬x.hi<x.lo):Run T chkR [(1, .asl d l 1 n 0 n),(2, .ptr s.length 32 0),(5, .bool ch),(6,i64 i),(7,i64 k),(23, .bool true)] ([(32, .cell (vT t))]::putM s d b S)=some (.normal,[(1, .asl d l 1 n 0 n),(2, .ptr s.length 32 0),(5, .bool ch),(6,i64 i),(7,i64 k),(42, .bool false)],[(32, .cell (vT t))]::putM s d b S):=by
 have hi2:(i:Int)<n:=by omega
 have hk3:(k:Int)<(C:Int)+1:=by omega
 obtain⟨_,q1⟩:=List.getElem?_eq_some_iff.1 q1
 unfold chkR
 simp (maxSteps:=1000000) (disch:=first|omega|assumption|decide +kernel|(simp;done)|(simp;omega)|fail) [run_drawnK,hd2,hi0,hk,hk3,g0,g1,q1,n1,hx]
end
end Go.Proofs.YthghcainodgnkaaGreat

/-
  Watch: the reference's settle: its loop over chambers.
-/
namespace Go.Proofs.YthghcainodgnkaaGreat
open Go.Ab
section
variable (t : CTrap) (C n : Nat) (d l b : Nat) (s : Stk) (S S1 S2 : CMat) (k : Nat) (ch c1 c2 : Bool)
set_option maxHeartbeats 2000000 in
theorem e_rest_0(w1:IntKind.i64.wrap ((k:Int)+1)=(k:Int)+1)
 (d1: ∀(F:Ab.Loc) lab,den T 118 [.asl d l 1 n 0 n,i64 0,i64 k,i64 0,i64 ((k:Int)+1),i64 0,i64 40] lab (F::putM s d b S)=some (.bool c1,F::putM s d b S1)):
 Run T restR [(1, .asl d l 1 n 0 n),(2, .ptr s.length 32 0),(5, .bool ch),(6,i64 0),(7,i64 k),(42, .bool false)] ([(32, .cell (vT t))]::putM s d b S)=some (.exit 5,[(1, .asl d l 1 n 0 n),(2, .ptr s.length 32 0),(5, .bool (c1||ch)),(6,i64 0),(7,i64 k),(54, .bool true)],[(32, .cell (vT t))]::putM s d b S1):=by
 unfold restR
 cases c1<;>simp (disch:=first|omega|assumption|decide +kernel|(simp;done)|(simp;omega)|fail) [d1,w1]
set_option maxHeartbeats 2000000 in
theorem e_rest_1(j:Nat)(hjo:j<t.opn.length)(hb:j<1000)(dr:Bool)(hdo:dr=has t.opn[j] k)(hlen:t.opn[j].length<4611686018427387904)(w1:IntKind.i64.wrap ((k:Int)+1)=(k:Int)+1)
 (d1: ∀(F:Ab.Loc) lab,den T 118 [.asl d l 1 n 0 n,i64 ((j:Int)+1),i64 k,i64 ((j:Int)+1),i64 ((k:Int)+1),i64 0,i64 40] lab (F::putM s d b S)=some (.bool c1,F::putM s d b S1))
 (d2: ∀(F:Ab.Loc) lab,den T 118 [.asl d l 1 n 0 n,i64 ((j:Int)+1),i64 k,i64 j,i64 k,i64 0,i64 (if dr=true then 40 else 0)] lab (F::putM s d b S1)=some (.bool c2,F::putM s d b S2)):
 Run T restR [(1, .asl d l 1 n 0 n),(2, .ptr s.length 32 0),(5, .bool ch),(6,i64 ((j:Int)+1)),(7,i64 k),(42, .bool false)] ([(32, .cell (vT t))]::putM s d b S)=some (.normal,[(1, .asl d l 1 n 0 n),(2, .ptr s.length 32 0),(5, .bool (c2||(c1||ch))),(6,i64 ((j:Int)+1)),(7,i64 k)],[(32, .cell (vT t))]::putM s d b S2):=by
 have hj2:(j:Int)<t.opn.length:=by omega
 have w2:IntKind.i64.wrap (j:Int)=j:=wi _ (by omega) (by omega)
 have hj3: ¬(j:Int)+1=0:=by omega
 unfold restR
 cases dr
 ·simp only[Bool.false_eq_true,if_false]at d2
  cases c1<;>cases c2<;>simp (disch:=first|omega|assumption|decide +kernel|(simp;done)|(simp;omega)|fail) [d1,d2,w1,w2,hj2,hj3,hjo,hdo.symm,hlen]
 ·simp only[if_true]at d2
  cases c1<;>cases c2<;>simp (disch:=first|omega|assumption|decide +kernel|(simp;done)|(simp;omega)|fail) [d1,d2,w1,w2,hj2,hj3,hjo,hdo.symm,hlen]
end
section
variable (t : CTrap) (h : TrapOk t) (hop : ∀ l, l ∈ t.opn → l.length < 4611686018427387904) (d l b : Nat) (s : Stk) (hd : d < s.length) (hl : ∀ i, i < t.T → l ≠ b + 1000 * i) (hs : sget s d l = some (.arr 1 (ptrM d b (t.C + 1) t.T)))
include h hop hd hl hs
set_option maxHeartbeats 8000000 in
theorem e_stl_l2(i:Nat)(hi0:i<t.T)(a:PS)(M:Int)(hM:M≤900000)(hI:InvS t.T t.C M a.S):
 ∃c:Nat,Run T b74l2 [(1, .asl d l 1 t.T 0 t.T),(2, .ptr s.length 32 0),(5, .bool a.ch),(6,i64 i),(7,i64 0)] ([(32, .cell (vT t))]::putM s d b a.S)=
  if (runI (itemsI t i) a).2=true then some (.exit 4,[(1, .asl d l 1 t.T 0 t.T),(2, .ptr s.length 32 0),(5, .bool (runI (itemsI t i) a).1.ch),(6,i64 i),(7,i64 t.C),(23, .bool false)],[(32, .cell (vT t))]::putM s d b (runI (itemsI t i) a).1.S)
  else some (.ret,[(4, .bool false)],[(32, .cell (vT t))]::putM s d b (runI (itemsI t i) a).1.S):=by
 have hcc:=h.cc
 have htt:=h.tt
 have e1:t.C=t.chambers.toNat:=rfl
 have e2:t.T=t.times.toNat:=rfl
 have hC4:t.C≤4:=by omega
 have hT5:t.T≤5:=by omega
 have hd2: ¬d=s.length:=by omega
 have hi2:(i:Int)<t.T:=by omega
 have key:=loop_list_e (T:=T) (live:=[1,2,5,6,7]) (keep:=[32,160,1600]) (b:=d74l2) (γ:=Nat) (List.range t.C) (fun k a=>InvS t.T t.C (M+80*k) a.S) (fun k a=>[(1, .asl d l 1 t.T 0 t.T),(2, .ptr s.length 32 0),(5, .bool a.ch),(6,i64 i),(7,i64 (k:Nat))]) (fun _ a=>[(32, .cell (vT t))]::putM s d b a.S)
  (fun a c=>runI (itemsC t i c) a) (fun(_:Nat) a=>(.ret,[(4, .bool false)],[(32, .cell (vT t))]::putM s d b a.S))
  (fun a=>(.exit 4,[(1, .asl d l 1 t.T 0 t.T),(2, .ptr s.length 32 0),(5, .bool a.ch),(6,i64 i),(7,i64 t.C),(23, .bool false)],[(32, .cell (vT t))]::putM s d b a.S)) (by simp) (by simp) ?_ ?_ a (by simpa using hI) [(1, .asl d l 1 t.T 0 t.T),(2, .ptr s.length 32 0),(5, .bool a.ch),(6,i64 i),(7,i64 0)] ([(32, .cell (vT t))]::putM s d b a.S) (by simp[hd2]) (by simp[hd2])
 ·rw[foldB_run]at key
  exact key
 ·intro k a hk hI
  simp only[List.length_range]at hk
  simp only[List.getElem_range]
  rw[d_stl_l2]
  have hk2:(k:Int)<t.chambers:=by omega
  have g0:sget (putM s d b a.S) d l=some (.arr 1 (ptrM d b (t.C+1) t.T)):=by rw[sget_putM_no a.S b l fun i hi=>hl i (by rw[hI.shape.len]at hi;exact hi)];exact hs
  have g1:=rowV_sget hI.shape (s:=s) (b:=b) hd hi0
  have q1:=rowV_get hI.shape hi0 (Nat.le_of_lt hk)
  have n1:=rowV_len hI.shape hi0
  have hk4:k<t.C+1:=by omega
  have w1:IntKind.i64.wrap ((k:Int)+1)=(k:Int)+1:=wi _ (by omega) (by omega)
  have hbad:=e_chk_bad t t.C t.T d l b s a.S hd2 g0 i k hi0 hk4 _ g1 n1 _ q1 a.ch
  have hgood:=e_chk_ok t t.C t.T d l b s a.S hd2 g0 i k hi0 hk4 _ g1 n1 _ q1 a.ch
  clear g0 g1 q1 n1
  by_cases hx:(atS a.S i k).hi<(atS a.S i k).lo
  ·have ef:runI (itemsC t i k) a=(a,false):=by simp[itemsC,runI,stepI,hx]
   rw[ef]
   have hbad:=hbad hx
   refine⟨fun hh=>by simp at hh,fun _=>⟨0,?_⟩⟩
   clear hgood hI hs
   generalize t.C=C at*
   generalize t.T=n at*
   generalize a.S=S at*
   simp (disch:=first|omega|assumption|decide +kernel|(simp;done)|(simp;omega)|fail) [hd2,hk2,hbad]
  have hx1:(stepI a (.chk i k)).2=true:=by simp[stepI,hx]
  have hgood:=hgood hx
  clear hbad
  have hk1:Dif.Ok t.T t.C ⟨i,k,i,k+1,0,40⟩:=⟨hi0,hi0,hk,hk,fun e=>by have:=e.2;dsimp only at this;omega,⟨Int.le_refl _,by dsimp only;omega⟩,⟨by dsimp only;omega,Int.le_refl _⟩,fun e=>⟨rfl,e⟩⟩
  have d1:=fun(F:Ab.Loc) lab=>e_differ' t hC4 hT5 a.S hI (by omega) i k i (k+1) 0 40 hk1 d l b F s hd hl hs i k i ((k:Int)+1) rfl rfl rfl rfl lab
  have hI1:InvS t.T t.C (M+80*(k:Nat)+40) (difS a.S ⟨i,k,i,k+1,0,40⟩):=hI.dif hk1
  by_cases hz:i=0
  ·subst hz
   have ef:runI (itemsC t 0 k) a=(⟨difS a.S ⟨0,k,0,k+1,0,40⟩,difC a.S ⟨0,k,0,k+1,0,40⟩||a.ch⟩,true):=by
    simp[itemsC,runI,hx1];simp[stepI]
   rw[ef]
   have hrest:=e_rest_0 t t.T d l b s _ _ k a.ch _ w1 d1
   refine⟨fun _=>⟨?_,by refine InvS.weaken hI1 ?_;omega⟩,fun hh=>by simp at hh⟩
   clear hI1 hk1 hI hl ef hx1 hs d1
   simp only[show((0:Nat):Int)=0 from rfl]at hgood⊢
   generalize t.C=C at*
   generalize t.T=n at*
   generalize (difC a.S ⟨0,k,0,k+1,0,40⟩||a.ch)=c1 at*
   generalize difS a.S ⟨0,k,0,k+1,0,40⟩=S1 at*
   generalize a.S=S at*
   simp (disch:=first|omega|assumption|decide +kernel|(simp;done)|(simp;omega)|fail) [hd2,hk2,hgood,hrest,wk k (by omega)]
  ·obtain⟨j,rfl⟩: ∃j,i=j+1:=⟨i-1,by omega⟩
   have hjo:j<t.opn.length:=by have:=h.opn;omega
   have hdo:=doorB_has t hjo k
   have hlen:=hop t.opn[j] (List.getElem_mem hjo)
   have hk2': ∀m:Int,0≤m∧m≤40→Dif.Ok t.T t.C ⟨j+1,k,j,k,0,m⟩:=fun m hm=>⟨hi0,show j<_ by omega,hk,Nat.le_of_lt hk,fun e=>by have:=e.1;dsimp only at this;omega,⟨Int.le_refl _,by dsimp only;omega⟩,⟨hm.1,hm.2⟩,fun e=>by dsimp only at e;omega⟩
   have hm:0≤(if doorB t j k=true then(40:Int)else 0)∧(if doorB t j k=true then(40:Int)else 0)≤40:=by split<;>omega
   have d2:=fun(F:Ab.Loc) lab=>e_differ' t hC4 hT5 _ hI1 (by omega) (j+1) k j k 0 (if doorB t j k=true then 40 else 0) (hk2' _ hm) d l b F s hd hl hs ((j:Int)+1) k j k rfl rfl rfl rfl lab
   have ef:runI (itemsC t (j+1) k) a=(⟨difS (difS a.S ⟨j+1,k,j+1,k+1,0,40⟩) ⟨j+1,k,j,k,0,if doorB t j k=true then 40 else 0⟩,difC (difS a.S ⟨j+1,k,j+1,k+1,0,40⟩) ⟨j+1,k,j,k,0,if doorB t j k=true then 40 else 0⟩||(difC a.S ⟨j+1,k,j+1,k+1,0,40⟩||a.ch)⟩,true):=by
    simp[itemsC,runI,hx1];simp[stepI]
   rw[ef]
   have hI2:=hI1.dif (hk2' _ hm)
   refine⟨fun _=>⟨?_,by refine InvS.weaken hI2 ?_;omega⟩,fun hh=>by simp at hh⟩
   simp only[show((j+1:Nat):Int)=(j:Int)+1 from rfl]at d1 hgood⊢
   have hrest:=e_rest_1 t t.T d l b s _ _ _ k a.ch _ _ j hjo (by omega) _ hdo hlen w1 d1 d2
   clear hI1 hI2 hk1 hk2' hI hl ef hx1 hs hm d1 d2 hlen
   generalize (difC (difS a.S ⟨j+1,k,j+1,k+1,0,40⟩) ⟨j+1,k,j,k,0,if doorB t j k=true then 40 else 0⟩||(difC a.S ⟨j+1,k,j+1,k+1,0,40⟩||a.ch))=c2 at*
   generalize difS (difS a.S ⟨j+1,k,j+1,k+1,0,40⟩) ⟨j+1,k,j,k,0,if doorB t j k=true then 40 else 0⟩=S2 at*
   clear hdo
   generalize t.C=C at*
   generalize t.T=n at*
   generalize a.S=S at*
   simp (disch:=first|omega|assumption|decide +kernel|(simp;done)|(simp;omega)|fail) [hd2,hk2,hgood,hrest,wk k (by omega)]
 ·intro a hi
  have hz:((t.C:Nat):Int)=t.chambers:=by omega
  simp only[List.length_range,hz]
  simp
end
end Go.Proofs.YthghcainodgnkaaGreat

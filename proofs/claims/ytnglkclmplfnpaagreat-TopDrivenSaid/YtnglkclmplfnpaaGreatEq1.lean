/-
  Counts: a matrix of differences that is closed again: plain law.
-/
import Derived.Test.YtnglkclmplfnpaaGreatPtab
import Derived.Test.YtnglkclmplfnpaaGreatAb7
set_option linter.unusedSimpArgs false
set_option linter.unusedVariables false
namespace Go.Proofs.YtnglkclmplfnpaaGreat
def gB(B:List Int)(i k:Nat):Int:=B.getD (21*i+k) 0
def limS(f t:Nat)(m:Int)(i:Nat)(B:List Int)(k:Nat):List Int:=B.set (21*i+k) (min (gB B i k) (gB B i f+m+gB B t k))
def limRow(f t:Nat)(m:Int)(B:List Int)(i:Nat):List Int:=(List.range 21).foldl (limS f t m i) B
def limL(f t:Nat)(m:Int)(B:List Int):List Int:=if gB B f t≤m then B else(List.range 21).foldl (limRow f t m) B
@[simp] theorem limS_length(f t m i B k):(limS f t m i B k).length=B.length:=by simp[limS]
theorem rangeSucc_fold {α:Type}(g:α→Nat→α)(a:α)(n:Nat):(List.range (n+1)).foldl g a=g ((List.range n).foldl g a) n:=by simp[List.range_succ]
theorem gB_set {B:List Int} {i k j l:Nat} {x:Int}(hB:B.length=441)(hi:i<21)(hk:k<21)(hl:l<21):gB (B.set (21*i+k) x) j l=if j=i∧l=k then x else gB B j l:=by
 unfold gB
 simp only[List.getD,List.getElem?_set]
 by_cases h:j=i∧l=k
 ·obtain⟨rfl,rfl⟩:=h
  rw[if_pos rfl,if_pos (by omega),if_pos ⟨rfl,rfl⟩];rfl
 ·rw[if_neg (by omega),if_neg h]
structure LimI(f t:Nat)(m:Int)(B:List Int)(M:Int)(i k:Nat)(A:List Int):Prop where
 len:A.length=441
 le: ∀j l,j<21→l<21→gB A j l≤gB B j l
 old: ∀j l,j<21→l<21→(i<j∨j=i∧k≤l)→gB A j l=gB B j l
 new: ∀j l,j<21→l<21→(j<i∨j=i∧l<k)→gB A j l≤gB B j f+m+gB B t l
 low:(∀j l,j<21→l<21→ -M≤gB B j l)→0≤M→ -40≤m→ ∀j l,j<21→l<21→(if l=f then(if j=t then -(2*M+40)else -(3*M+80))else if j=t then -(3*M+80)else -(6*M+200))≤gB A j l
 stay: ∀D:Nat→Nat→Int,(∀j l,j<21→l<21→D j l≤D j f+m+D t l)→(∀j l,j<21→l<21→D j l≤gB B j l)→ ∀j l,j<21→l<21→D j l≤gB A j l
theorem LimI.start {f t m B M}(hB:B.length=441):LimI f t m B M 0 0 B where
 len:=hB
 le _ _ _ _:=Int.le_refl _
 old _ _ _ _ _:=rfl
 new _ _ _ _ h:=by omega
 low h hM _ j l hj hl:=by have:=h j l hj hl;split<;>split<;>omega
 stay _ _ h:=h
theorem LimI.step {f t m B M i k A}(h:LimI f t m B M i k A)(hf:f<21)(ht:t<21)(hi:i<21)(hk:k<21):LimI f t m B M i (k+1) (limS f t m i A k) where
 len:=by simp[h.len]
 le j l hj hl:=by
  unfold limS;rw[gB_set h.len hi hk hl]
  have:=h.le j l hj hl
  split
  ·rename_i e;obtain⟨ej,el⟩:=e;subst ej;subst el;omega
  ·exact this
 old j l hj hl ho:=by
  unfold limS;rw[gB_set h.len hi hk hl,if_neg (by omega)]
  exact h.old j l hj hl (by omega)
 new j l hj hl hn:=by
  unfold limS;rw[gB_set h.len hi hk hl]
  split
  ·rename_i e;obtain⟨ej,el⟩:=e;subst ej;subst el
   have h1:=h.le j f hj hf
   have h2:=h.le t l ht hl
   omega
  ·exact h.new j l hj hl (by omega)
 low hb hM hm j l hj hl:=by
  unfold limS;rw[gB_set h.len hi hk hl]
  have h0:=h.low hb hM hm
  by_cases e:j=i∧l=k
  ·rw[if_pos e]
   obtain⟨ej,el⟩:=e;subst ej;subst el
   have o1:=h.old j l hj hl (.inr ⟨rfl,Nat.le_refl _⟩)
   have b1:=hb j l hj hl
   have a1:=h0 j f hj hf
   have a2:=h0 t l ht hl
   rw[if_pos rfl]at a1
   rw[if_pos rfl]at a2
   by_cases e1:l=f
   ·subst e1
    rw[if_pos rfl]at a2⊢
    by_cases e2:j=t
    ·subst e2
     rw[if_pos rfl];omega
    ·rw[if_neg e2];omega
   ·rw[if_neg e1]at a2⊢
    by_cases e2:j=t
    ·subst e2
     rw[if_pos rfl]at a1⊢;omega
    ·rw[if_neg e2]at a1⊢;omega
  ·rw[if_neg e]
   exact h0 j l hj hl
 stay D hD hB j l hj hl:=by
  unfold limS;rw[gB_set h.len hi hk hl]
  have h0:=h.stay D hD hB
  split
  ·rename_i e;obtain⟨ej,el⟩:=e;subst ej;subst el
   have a0:=h0 j l hj hl
   have a1:=h0 j f hj hf
   have a2:=h0 t l ht hl
   have a3:=hD j l hj hl
   omega
  ·exact h0 j l hj hl
theorem LimI.row {f t m B M i A}(h:LimI f t m B M i 0 A)(hf:f<21)(ht:t<21)(hi:i<21): ∀k,k≤21→LimI f t m B M i k ((List.range k).foldl (limS f t m i) A)
 |0,_=>h
 |k+1,hk=>by rw[rangeSucc_fold];exact(LimI.row h hf ht hi k (by omega)).step hf ht hi (by omega)
theorem LimI.next {f t m B M i A}(h:LimI f t m B M i 21 A):LimI f t m B M (i+1) 0 A where
 len:=h.len
 le:=h.le
 old j l hj hl ho:=h.old j l hj hl (by omega)
 new j l hj hl hn:=h.new j l hj hl (by omega)
 low:=h.low
 stay:=h.stay
theorem LimI.rows {f t m B M}(hB:B.length=441)(hf:f<21)(ht:t<21): ∀i,i≤21→LimI f t m B M i 0 ((List.range i).foldl (limRow f t m) B)
 |0,_=> .start hB
 |i+1,hi=>by rw[rangeSucc_fold];exact((LimI.rows hB hf ht i (by omega)).row hf ht (by omega) 21 (Nat.le_refl _)).next
structure ClosedB(B:List Int):Prop where
 diag: ∀i,i<21→gB B i i=0
 tri: ∀i j k,i<21→j<21→k<21→gB B i k≤gB B i j+gB B j k
def ClashB(B:List Int):Prop:= ∃i,i<21∧gB B i i<0
def SatB(B:List Int)(y:Nat→Int):Prop:= ∀i k,i<21→k<21→y k-y i≤gB B i k
theorem ClashB.none {B}(h:ClashB B)(y): ¬SatB B y:=fun hy=>by
 obtain⟨i,hi,h⟩:=h
 have:=hy i i hi hi;omega
structure MatB(B:List Int)(S:(Nat→Int)→Prop):Prop where
 len:B.length=441
 sat: ∀y,SatB B y↔S y
 or:ClosedB B∨ClashB B
theorem MatB.diag {B S}(h:MatB B S)(hc: ¬ClashB B):ClosedB B:=h.or.resolve_right hc
theorem limL_length {f t m B}(hB:B.length=441)(hf:f<21)(ht:t<21):(limL f t m B).length=441:=by
 unfold limL;split
 ·exact hB
 ·exact(LimI.rows (M:=0) hB hf ht 21 (Nat.le_refl _)).len
theorem limL_le {f t m B}(hB:B.length=441)(hf:f<21)(ht:t<21)(i k)(hi:i<21)(hk:k<21):gB (limL f t m B) i k≤gB B i k:=by
 unfold limL;split
 ·exact Int.le_refl _
 ·exact(LimI.rows (M:=0) hB hf ht 21 (Nat.le_refl _)).le i k hi hk
theorem limL_low {f t m B M}(hB:B.length=441)(hf:f<21)(ht:t<21)(h: ∀j l,j<21→l<21→ -M≤gB B j l)(hM:0≤M)(hm: -40≤m)(i k)(hi:i<21)(hk:k<21): -(6*M+200)≤gB (limL f t m B) i k:=by
 unfold limL;split
 ·have:=h i k hi hk;omega
 ·have:=(LimI.rows (M:=M) (m:=m) hB hf ht 21 (Nat.le_refl _)).low h hM hm i k hi hk
  refine Int.le_trans ?_ this
  split<;>split<;>omega
theorem MatB.limit {B S f t m}(h:MatB B S)(hf:f<21)(ht:t<21):MatB (limL f t m B) fun y=>S y∧y t-y f≤m:=by
 have hlen:=limL_length (m:=m) h.len hf ht
 have hle:=limL_le (m:=m) h.len hf ht
 have clash:ClashB B→MatB (limL f t m B) fun y=>S y∧y t-y f≤m:=fun hc=>by
  have hc2:ClashB (limL f t m B):=by
   obtain⟨i,hi,h1⟩:=hc
   exact⟨i,hi,by have:=hle i i hi hi;omega⟩
  exact⟨hlen,fun y=>⟨fun hy=>absurd hy (hc2.none y),fun hy=>absurd ((h.sat y).2 hy.1) (hc.none y)⟩, .inr hc2⟩
 rcases h.or with hcl|hc
 rotate_left
 ·exact clash hc
 by_cases hm:gB B f t≤m
 ·have e:limL f t m B=B:=if_pos hm
  rw[e]
  refine⟨h.len,fun y=>⟨fun hy=>⟨(h.sat y).1 hy,?_⟩,fun hy=>(h.sat y).2 hy.1⟩,h.or⟩
  have:=hy f t hf ht;omega
 ·have hL:=LimI.rows (f:=f) (t:=t) (m:=m) (M:=0) h.len hf ht 21 (Nat.le_refl _)
  have e:limL f t m B=(List.range 21).foldl (limRow f t m) B:=if_neg hm
  rw[e]at hle hlen⊢
  generalize (List.range 21).foldl (limRow f t m) B=A at*
  have hnew: ∀j l,j<21→l<21→gB A j l≤gB B j f+m+gB B t l:=fun j l hj hl=>hL.new j l hj hl (by omega)
  have d1:=hcl.diag f hf
  have d2:=hcl.diag t ht
  refine⟨hlen,fun y=>⟨fun hy=>⟨(h.sat y).1 fun i k hi hk=>Int.le_trans (hy i k hi hk) (hle i k hi hk),?_⟩,fun hy=> ?_⟩,?_⟩
  ·have h1:=hy f t hf ht
   have h2:=hnew f t hf ht
   omega
  ·have hs:=(h.sat y).2 hy.1
   intro i k hi hk
   exact hL.stay (fun i k=>y k-y i) (fun j l _ _=>by omega) (fun j l hj hl=>hs j l hj hl) i k hi hk
  ·by_cases hneg:m+gB B t f<0
   ·right
    have:=hnew f f hf hf
    exact⟨f,hf,by omega⟩
   ·left
    have hex: ∀i k,i<21→k<21→gB A i k=min (gB B i k) (gB B i f+m+gB B t k):=fun i k hi hk=>by
     have h1:=hle i k hi hk
     have h2:=hnew i k hi hk
     have h3:=hL.stay (fun i k=>min (gB B i k) (gB B i f+m+gB B t k)) (fun j l hj hl=>by omega) (fun j l _ _=>by omega) i k hi hk
     omega
    refine⟨fun i hi=> ?_,fun i j k hi hj hk=> ?_⟩
    ·have h1:=hcl.diag i hi
     have h2:=hcl.tri t i f ht hi hf
     rw[hex i i hi hi];omega
    ·have t1:=hcl.tri i j k hi hj hk
     have t2:=hcl.tri i j f hi hj hf
     have t3:=hcl.tri t j k ht hj hk
     have t4:=hcl.tri t j f ht hj hf
     rw[hex i k hi hk,hex i j hi hj,hex j k hj hk];omega
theorem ClosedB.upB {B}(h:ClosedB B) {f:Nat}(hf:f<21):SatB B fun k=>gB B f k:=fun i k hi hk=>by
 have:=h.tri f i k hf hi hk;dsimp only;omega
theorem ClosedB.loB {B}(h:ClosedB B) {f:Nat}(hf:f<21):SatB B fun k=> -gB B k f:=fun i k hi hk=>by
 have:=h.tri i k f hi hk hf;dsimp only;omega
end Go.Proofs.YtnglkclmplfnpaaGreat

/-
  Counts: spans that are cut until nothing changes: plain law.
-/
namespace Go.Proofs.YtnglkclmplfnpaaGreat
structure CSp where
 lo:Int
 hi:Int
 deriving DecidableEq,Inhabited
structure CWord where
 time:Int
 chamber:Int
 lo:Int
 hi:Int
 deriving DecidableEq,Inhabited
structure CTrap where
 chambers:Int
 times:Int
 opn:List (List Int)
 words:List CWord
 deriving DecidableEq,Inhabited
abbrev CMat:=List (List CSp)
def atS(S:CMat)(i c:Nat):CSp:=(S.getD i []).getD c ⟨0,0⟩
def putS(S:CMat)(i c:Nat)(x:CSp):CMat:=S.set i ((S.getD i []).set c x)
def cutS(a b:CSp):CSp:=⟨max a.lo b.lo,min a.hi b.hi⟩
structure Shape(T C:Nat)(S:CMat):Prop where
 len:S.length=T
 row: ∀i,i<T→(S.getD i []).length=C+1
theorem Shape.put {T C S}(h:Shape T C S) {i c:Nat} {x:CSp}(hi:i<T):Shape T C (putS S i c x) where
 len:=by simp[putS,h.len]
 row j hj:=by
  have:=h.row j hj
  have hi':i<S.length:=by rw[h.len];exact hi
  simp only[putS,List.getD,List.getElem?_set]
  by_cases e:i=j
  ·subst e;rw[if_pos rfl,if_pos hi'];simpa [List.getD]using this
  ·rw[if_neg e];exact this
theorem Shape.at_put {T C S}(h:Shape T C S) {i c j d:Nat} {x:CSp}(hi:i<T)(hc:c≤C)(_hj:j<T):atS (putS S i c x) j d=if j=i∧d=c then x else atS S j d:=by
 have hr:=h.row i hi
 have hi':i<S.length:=by rw[h.len];exact hi
 unfold atS putS
 by_cases e:i=j
 ·subst e
  have e1:(S.set i ((S.getD i []).set c x)).getD i []=(S.getD i []).set c x:=by simp[List.getD,hi']
  rw[e1]
  generalize S.getD i []=r at hr
  simp only[List.getD,List.getElem?_set]
  by_cases e2:c=d
  ·subst e2;have hcr:c<r.length:=by omega
   simp[hcr]
  ·rw[if_neg e2,if_neg (by omega)]
 ·have e1:(S.set i ((S.getD i []).set c x)).getD j []=S.getD j []:=by simp only[List.getD,List.getElem?_set];rw[if_neg e]
  rw[e1,if_neg (by omega)]
theorem Shape.ext {T C S S'}(h:Shape T C S)(h':Shape T C S')(e: ∀i c,i<T→c≤C→atS S i c=atS S' i c):S=S':=by
 refine List.ext_getElem (by rw[h.len,h'.len]) fun i h1 h2=> ?_
 have hi:i<T:=by rw[←h.len];exact h1
 have r1:=h.row i hi
 have r2:=h'.row i hi
 have g1:S.getD i []=S[i]:=by simp[List.getD,h1]
 have g2:S'.getD i []=S'[i]:=by simp[List.getD,h2]
 rw[g1]at r1
 rw[g2]at r2
 refine List.ext_getElem (by rw[r1,r2]) fun c c1 c2=> ?_
 have:=e i c hi (by omega)
 unfold atS at this
 rw[g1,g2]at this
 simpa [List.getD,c1,c2]using this
structure Dif where
 i:Nat
 c:Nat
 j:Nat
 d:Nat
 lo:Int
 hi:Int
structure Dif.Ok(T C:Nat)(k:Dif):Prop where
 i:k.i<T
 j:k.j<T
 c:k.c<C
 d:k.d≤C
 ne: ¬(k.i=k.j∧k.c=k.d)
 lo:0≤k.lo∧k.lo≤40
 hi:k.lo≤k.hi∧k.hi≤40
 last:k.d=C→k.i=k.j∧k.c+1=C
def difA(a b:CSp)(lo hi:Int):CSp:=cutS a ⟨b.lo+lo,b.hi+hi⟩
def difB(a b:CSp)(lo hi:Int):CSp:=cutS b ⟨a.lo-hi,a.hi-lo⟩
def difS(S:CMat)(k:Dif):CMat:=
 putS (putS S k.i k.c (difA (atS S k.i k.c) (atS S k.j k.d) k.lo k.hi)) k.j k.d (difB (atS S k.i k.c) (atS S k.j k.d) k.lo k.hi)
def difC(S:CMat)(k:Dif):Bool:=
 decide (difA (atS S k.i k.c) (atS S k.j k.d) k.lo k.hi≠atS S k.i k.c)||decide (difB (atS S k.i k.c) (atS S k.j k.d) k.lo k.hi≠atS S k.j k.d)
theorem difS_shape {T C S k}(h:Shape T C S)(hk:Dif.Ok T C k):Shape T C (difS S k):=(h.put hk.i).put hk.j
theorem difS_at {T C S k}(h:Shape T C S)(hk:Dif.Ok T C k) {j d:Nat}(hj:j<T):atS (difS S k) j d=if j=k.j∧d=k.d then difB (atS S k.i k.c) (atS S k.j k.d) k.lo k.hi else if j=k.i∧d=k.c then difA (atS S k.i k.c) (atS S k.j k.d) k.lo k.hi else atS S j d:=by
 unfold difS
 rw[(h.put hk.i).at_put hk.j hk.d hj,h.at_put hk.i (by have:=hk.c;omega) hj]
theorem difC_false {T C S k}(h:Shape T C S)(hk:Dif.Ok T C k)(hc:difC S k=false):difS S k=S∧difA (atS S k.i k.c) (atS S k.j k.d) k.lo k.hi=atS S k.i k.c∧difB (atS S k.i k.c) (atS S k.j k.d) k.lo k.hi=atS S k.j k.d:=by
 simp only[difC,Bool.or_eq_false_iff,decide_eq_false_iff_not,Decidable.not_not]at hc
 refine⟨Shape.ext (difS_shape h hk) h fun i c hi _=> ?_,hc.1,hc.2⟩
 rw[difS_at h hk hi,hc.1,hc.2]
 split
 ·rename_i e;rw[e.1,e.2]
 ·split
  ·rename_i e;rw[e.1,e.2]
  ·rfl
def LeS(T C:Nat)(S' S:CMat):Prop:= ∀i c,i<T→c≤C→(atS S i c).lo≤(atS S' i c).lo∧(atS S' i c).hi≤(atS S i c).hi
theorem LeS.refl(T C S):LeS T C S S:=fun _ _ _ _=>⟨Int.le_refl _,Int.le_refl _⟩
theorem LeS.trans {T C S S' S''}(h:LeS T C S'' S')(h':LeS T C S' S):LeS T C S'' S:=fun i c hi hc=>⟨Int.le_trans (h' i c hi hc).1 (h i c hi hc).1,Int.le_trans (h i c hi hc).2 (h' i c hi hc).2⟩
theorem difS_le {T C S k}(h:Shape T C S)(hk:Dif.Ok T C k):LeS T C (difS S k) S:=fun i c hi hc=>by
 rw[difS_at h hk hi]
 split
 ·rename_i e;rw[e.1,e.2];simp only[difB,cutS];omega
 ·split
  ·rename_i e;rw[e.1,e.2];simp only[difA,cutS];omega
  ·omega
def InS(T C:Nat)(S:CMat)(x:Nat→Nat→Int):Prop:= ∀i c,i<T→c≤C→(atS S i c).lo≤x i c∧x i c≤(atS S i c).hi
def Dif.Sat(k:Dif)(x:Nat→Nat→Int):Prop:=k.lo≤x k.i k.c-x k.j k.d∧x k.i k.c-x k.j k.d≤k.hi
theorem difS_in {T C S k x}(h:Shape T C S)(hk:Dif.Ok T C k)(hx:InS T C S x)(hs:k.Sat x):InS T C (difS S k) x:=fun i c hi hc=>by
 have h1:=hx k.i k.c hk.i (by have:=hk.c;omega)
 have h2:=hx k.j k.d hk.j hk.d
 have h3:=hx i c hi hc
 unfold Dif.Sat at hs
 rw[difS_at h hk hi]
 split
 ·rename_i e;rw[e.1,e.2];simp only[difB,cutS];omega
 ·split
  ·rename_i e;rw[e.1,e.2];simp only[difA,cutS];omega
  ·exact h3
def muR(r:List CSp):Int:=(r.map fun a=>a.hi-a.lo).sum
def muS(S:CMat):Int:=(S.map muR).sum
theorem muR_set {r:List CSp} {c:Nat} {x:CSp}(hc:c<r.length):muR (r.set c x)=muR r+((x.hi-x.lo)-((r.getD c ⟨0,0⟩).hi-(r.getD c ⟨0,0⟩).lo)):=by
 induction r generalizing c with
 |nil=>simp at hc
 |cons a r ih=>
   cases c with
   |zero=>simp[muR,List.getD];omega
   |succ c=>
     have:=ih (c:=c) (by simpa using hc)
     simp only[muR,List.getD,List.set_cons_succ,List.map_cons,List.sum_cons,List.getElem?_cons_succ]at this⊢
     omega
theorem muS_set {S:CMat} {i:Nat} {r:List CSp}(hi:i<S.length):muS (S.set i r)=muS S+(muR r-muR (S.getD i [])):=by
 induction S generalizing i with
 |nil=>simp at hi
 |cons a S ih=>
   cases i with
   |zero=>simp[muS,List.getD];omega
   |succ i=>
     have:=ih (i:=i) (by simpa using hi)
     simp only[muS,List.getD,List.set_cons_succ,List.map_cons,List.sum_cons,List.getElem?_cons_succ]at this⊢
     omega
theorem muS_put {T C S}(h:Shape T C S) {i c:Nat} {x:CSp}(hi:i<T)(hc:c≤C):muS (putS S i c x)=muS S+((x.hi-x.lo)-((atS S i c).hi-(atS S i c).lo)):=by
 unfold putS
 rw[muS_set (by rw[h.len];exact hi),muR_set (by rw[h.row i hi];omega)]
 unfold atS;omega
theorem muS_dif {T C S k}(h:Shape T C S)(hk:Dif.Ok T C k):muS (difS S k)≤muS S∧(difC S k=true→muS (difS S k)<muS S):=by
 have hc:=hk.c
 have e1:=muS_put h (x:=difA (atS S k.i k.c) (atS S k.j k.d) k.lo k.hi) hk.i (Nat.le_of_lt hk.c)
 have e2:=muS_put (h.put (c:=k.c) (x:=difA (atS S k.i k.c) (atS S k.j k.d) k.lo k.hi) hk.i) (x:=difB (atS S k.i k.c) (atS S k.j k.d) k.lo k.hi) hk.j hk.d
 rw[h.at_put hk.i (Nat.le_of_lt hk.c) hk.j,if_neg (by have:=hk.ne;omega)]at e2
 change muS (difS S k)=_ at e2
 rw[e2,e1]
 have b1:(difA (atS S k.i k.c) (atS S k.j k.d) k.lo k.hi).hi≤(atS S k.i k.c).hi∧(atS S k.i k.c).lo≤(difA (atS S k.i k.c) (atS S k.j k.d) k.lo k.hi).lo:=by simp only[difA,cutS];omega
 have b2:(difB (atS S k.i k.c) (atS S k.j k.d) k.lo k.hi).hi≤(atS S k.j k.d).hi∧(atS S k.j k.d).lo≤(difB (atS S k.i k.c) (atS S k.j k.d) k.lo k.hi).lo:=by simp only[difB,cutS];omega
 refine⟨by omega,fun hch=> ?_⟩
 unfold difC at hch
 generalize difA (atS S k.i k.c) (atS S k.j k.d) k.lo k.hi=a' at*
 generalize difB (atS S k.i k.c) (atS S k.j k.d) k.lo k.hi=b' at*
 generalize atS S k.i k.c=a at*
 generalize atS S k.j k.d=b at*
 obtain⟨a1,a2⟩:=a
 obtain⟨b1,b2⟩:=b
 obtain⟨c1,c2⟩:=a'
 obtain⟨d1,d2⟩:=b'
 simp only[Bool.or_eq_true,decide_eq_true_eq,ne_eq,CSp.mk.injEq]at hch
 dsimp only at*
 omega
end Go.Proofs.YtnglkclmplfnpaaGreat

/-
  Counts: settle: plain law.
-/
namespace Go.Proofs.YtnglkclmplfnpaaGreat
inductive Item where
 |chk (i c:Nat)
 |dif (k:Dif)
structure PS where
 S:CMat
 ch:Bool
def stepI(a:PS):Item→PS×Bool
 | .chk i c=>(a,!decide ((atS a.S i c).hi<(atS a.S i c).lo))
 | .dif k=>(⟨difS a.S k,difC a.S k||a.ch⟩,true)
def runI:List Item→PS→PS×Bool
 |[],a=>(a,true)
 |x::l,a=>if (stepI a x).2=true then runI l (stepI a x).1 else((stepI a x).1,false)
def Item.Ok(T C:Nat):Item→Prop
 | .chk i c=>i<T∧c<C
 | .dif k=>k.Ok T C
def Item.Sat(x:Nat→Nat→Int):Item→Prop
 | .chk _ _=>True
 | .dif k=>k.Sat x
structure Near(T C:Nat)(S:CMat):Prop where
 lo: ∀i c,i<T→c≤C→0≤(atS S i c).lo
 hi: ∀i c,i<T→c≤C→(atS S i c).hi≤40
 lastlo: ∀i c,i<T→c+1=C→(atS S i C).lo≤max 0 (atS S i c).lo
 lasthi: ∀i c,i<T→c+1=C→min 0 ((atS S i c).hi-40)≤(atS S i C).hi
theorem Near.dif {T C S k}(h:Near T C S)(hS:Shape T C S)(hk:Dif.Ok T C k):Near T C (difS S k) where
 lo i c hi hc:=Int.le_trans (h.lo i c hi hc) (difS_le hS hk i c hi hc).1
 hi i c hi hc:=Int.le_trans (difS_le hS hk i c hi hc).2 (h.hi i c hi hc)
 lastlo i c hi hc:=by
  have h0:=h.lastlo i c hi hc
  have h1:=(difS_le hS hk i c hi (by omega)).1
  rw[difS_at hS hk hi (d:=C)]
  have hkc:=hk.c
  by_cases e:i=k.j∧C=k.d
  ·obtain⟨l1,l2⟩:=hk.last e.2.symm
   have ec:c=k.c:=by omega
   have ei:i=k.i:=by omega
   rw[if_pos e]
   have:=hk.lo
   have:=hk.hi
   have h2:=difS_at hS hk (j:=i) (d:=c) hi
   rw[if_neg (by omega),if_pos ⟨ei,ec⟩]at h2
   rw[h2]
   rw[ei,ec]at h0
   rw[←e.1,←e.2,ei]
   simp only[difA,difB,cutS];omega
  ·rw[if_neg e,if_neg (by omega)];omega
 lasthi i c hi hc:=by
  have h0:=h.lasthi i c hi hc
  have h1:=(difS_le hS hk i c hi (by omega)).2
  rw[difS_at hS hk hi (d:=C)]
  have hkc:=hk.c
  by_cases e:i=k.j∧C=k.d
  ·obtain⟨l1,l2⟩:=hk.last e.2.symm
   have ec:c=k.c:=by omega
   have ei:i=k.i:=by omega
   rw[if_pos e]
   have:=hk.lo
   have:=hk.hi
   have h2:=difS_at hS hk (j:=i) (d:=c) hi
   rw[if_neg (by omega),if_pos ⟨ei,ec⟩]at h2
   rw[h2]
   rw[ei,ec]at h0
   rw[←e.1,←e.2,ei]
   simp only[difA,difB,cutS];omega
  ·rw[if_neg e,if_neg (by omega)];omega
structure RunI(T C:Nat)(l:List Item)(a b:PS)(fin:Bool):Prop where
 shape:Shape T C b.S
 near:Near T C b.S
 le:LeS T C b.S a.S
 sol: ∀x,InS T C a.S x→(∀k,k∈l→k.Sat x)→InS T C b.S x∧fin=true
 mu:muS b.S≤muS a.S
 mu2:a.ch=false→b.ch=true→muS b.S<muS a.S
 ch:a.ch=true→b.ch=true
 same:fin=true→b.ch=false→b.S=a.S∧ ∀k, .dif k∈l→difC a.S k=false
 chk:fin=true→ ∀i c, .chk i c∈l→(atS a.S i c).lo≤(atS a.S i c).hi
theorem runI_spec {T C:Nat}: ∀(l:List Item) (a:PS),(∀k,k∈l→Item.Ok T C k)→Shape T C a.S→Near T C a.S→RunI T C l a (runI l a).1 (runI l a).2
 |[],a,_,hS,hN=>⟨hS,hN, .refl T C _,fun _ h _=>⟨h,rfl⟩,Int.le_refl _,fun h h'=>(by rw[show(runI [] a).1=a from rfl,h]at h';cases h'),fun h=>h,fun _ _=>⟨rfl,fun _ h=>(by simp at h)⟩,fun _ _ _ h=>(by simp at h)⟩
 | .chk i c::l,a,hok,hS,hN=>by
   have ih:=runI_spec l a (fun k hk=>hok k (List.mem_cons_of_mem _ hk)) hS hN
   have h0:=hok _ (List.mem_cons_self ..)
   have e:runI (.chk i c::l) a=if (atS a.S i c).hi<(atS a.S i c).lo then(a,false)else runI l a:=by
    simp only[runI,stepI]
    by_cases h:(atS a.S i c).hi<(atS a.S i c).lo<;>simp[h]
   rw[e]
   by_cases h:(atS a.S i c).hi<(atS a.S i c).lo
   ·rw[if_pos h]
    refine⟨hS,hN, .refl T C _,fun x hx _=> ?_,Int.le_refl _,fun h1 h2=>(by rw[h1]at h2;cases h2),fun h=>h,fun h=>(by simp at h),fun h=>(by simp at h)⟩
    have:=hx i c h0.1 (Nat.le_of_lt h0.2);omega
   ·rw[if_neg h]
    refine⟨ih.shape,ih.near,ih.le,fun x hx hs=>ih.sol x hx fun k hk=>hs k (List.mem_cons_of_mem _ hk),ih.mu,ih.mu2,ih.ch,fun h1 h2=> ?_,fun h1 i' c' hm=> ?_⟩
    ·obtain⟨s1,s2⟩:=ih.same h1 h2
     refine⟨s1,fun k hk=> ?_⟩
     rcases List.mem_cons.1 hk with hk|hk
     ·cases hk
     ·exact s2 k hk
    ·rcases List.mem_cons.1 hm with hm|hm
     ·cases hm;omega
     ·exact ih.chk h1 i' c' hm
 | .dif k::l,a,hok,hS,hN=>by
   have h0:Dif.Ok T C k:=hok _ (List.mem_cons_self ..)
   have ih:=runI_spec l ⟨difS a.S k,difC a.S k||a.ch⟩ (fun k hk=>hok k (List.mem_cons_of_mem _ hk)) (difS_shape hS h0) (hN.dif hS h0)
   have e:runI (.dif k::l) a=runI l ⟨difS a.S k,difC a.S k||a.ch⟩:=by simp[runI,stepI]
   rw[e]
   have hle:=difS_le hS h0
   have hmu:=muS_dif hS h0
   refine⟨ih.shape,ih.near,ih.le.trans hle,fun x hx hs=> ?_,Int.le_trans ih.mu hmu.1,fun h1 h2=> ?_,fun h1=>ih.ch (by simp[h1]),fun h1 h2=> ?_,fun h1 i c hm=> ?_⟩
   ·exact ih.sol x (difS_in hS h0 hx (hs _ (List.mem_cons_self ..))) fun k hk=>hs k (List.mem_cons_of_mem _ hk)
   ·have:=ih.mu
    by_cases hc:difC a.S k=true
    ·have:=hmu.2 hc
     dsimp only at*;omega
    ·have:=ih.mu2 (by simp[hc,h1]) h2
     have:=hmu.1
     dsimp only at*;omega
   ·have hc:difC a.S k=false:=by
     cases hc:difC a.S k
     ·rfl
     ·have:=ih.ch (by simp[hc]);rw[this]at h2;cases h2
    have hs:=(difC_false hS h0 hc).1
    obtain⟨s1,s2⟩:=ih.same h1 h2
    dsimp only at s1 s2
    rw[hs]at s2
    refine⟨s1.trans hs,fun k' hk=> ?_⟩
    rcases List.mem_cons.1 hk with hk|hk
    ·cases hk;exact hc
    ·exact s2 k' hk
   ·rcases List.mem_cons.1 hm with hm|hm
    ·cases hm
    ·have h2:=ih.chk h1 i c hm
     have hi:=hok _ (List.mem_cons_of_mem _ hm)
     have:=hle i c hi.1 (Nat.le_of_lt hi.2)
     dsimp only at h2;omega
def okS(T C:Nat)(S:CMat):Bool:=(List.range T).all fun i=>(List.range (C+1)).all fun c=>decide ((atS S i c).lo≤(atS S i c).hi)
theorem okS_iff {T C S}:okS T C S=true↔ ∀i c,i<T→c≤C→(atS S i c).lo≤(atS S i c).hi:=by
 simp only[okS,List.all_eq_true,List.mem_range,decide_eq_true_eq]
 exact⟨fun h i c hi hc=>h i hi c (by omega),fun h i hi c hc=>h i c hi (by omega)⟩
def settleF(T C:Nat)(l:List Item):Nat→CMat→Bool×CMat
 |0,S=>(false,S)
 |n+1,S=>if (runI l ⟨S,false⟩).2=true then(if (runI l ⟨S,false⟩).1.ch=true then settleF T C l n (runI l ⟨S,false⟩).1.S else(okS T C (runI l ⟨S,false⟩).1.S,(runI l ⟨S,false⟩).1.S))else(false,(runI l ⟨S,false⟩).1.S)
theorem muR_low: ∀(r:List CSp),(∀c,c<r.length→ -80≤(r.getD c ⟨0,0⟩).hi-(r.getD c ⟨0,0⟩).lo)→ -(80*(r.length:Int))≤muR r
 |[],_=>by simp[muR]
 |a::r,h=>by
   have h0:=h 0 (by simp)
   have ih:=muR_low r fun c hc=>by have:=h (c+1) (by simpa using hc);simpa [List.getD]using this
   simp only[muR,List.map_cons,List.sum_cons,List.getD,List.length_cons,List.getElem?_cons_zero,Option.getD_some]at h0 ih⊢
   omega
theorem muS_low: ∀(S:CMat) (n:Nat),(∀i,i<S.length→ -(n:Int)≤muR (S.getD i []))→ -((n:Int)*(S.length:Int))≤muS S
 |[],n,_=>by simp[muS]
 |r::S,n,h=>by
   have h0:=h 0 (by simp)
   have ih:=muS_low S n fun i hi=>by have:=h (i+1) (by simpa using hi);simpa [List.getD]using this
   simp only[muS,List.map_cons,List.sum_cons,List.getD,List.length_cons,List.getElem?_cons_zero,Option.getD_some]at h0 ih⊢
   have:(n:Int)*((S.length+1:Nat):Int)=n*(S.length:Int)+n:=by rw[Int.natCast_add,Int.mul_add];simp
   omega
def muK(T C:Nat):Int:=(80*(C+1):Nat)*(T:Int)
theorem near_mu {T C S}(hC:0<C)(hS:Shape T C S)(hN:Near T C S)(h: ∀i c,i<T→c<C→(atS S i c).lo≤(atS S i c).hi): -muK T C≤muS S:=by
 have:=muS_low S (80*(C+1)) fun i hi=>by
  rw[hS.len]at hi
  have hr:=hS.row i hi
  have:=muR_low (S.getD i []) fun c hc=>by
   rw[hr]at hc
   change -80≤(atS S i c).hi-(atS S i c).lo
   by_cases e:c<C
   ·have:=h i c hi e;omega
   ·obtain rfl:c=C:=by omega
    obtain⟨q,rfl⟩: ∃q,c=q+1:=⟨c-1,by omega⟩
    have h1:=hN.lastlo i q hi rfl
    have h2:=hN.lasthi i q hi rfl
    have h3:=h i q hi (by omega)
    have h4:=hN.lo i q hi (by omega)
    have h5:=hN.hi i q hi (by omega)
    omega
  rw[hr]at this
  omega
 rw[hS.len]at this
 exact this
structure ItemsOk(T C:Nat)(l:List Item):Prop where
 ok: ∀k,k∈l→Item.Ok T C k
 all: ∀i c,i<T→c<C→ .chk i c∈l
 pos:0<C
structure SetSpec(T C:Nat)(l:List Item)(S:CMat)(r:Bool×CMat):Prop where
 shape:Shape T C r.2
 near:Near T C r.2
 le:LeS T C r.2 S
 yes: ∀x,InS T C S x→(∀k,k∈l→k.Sat x)→r.1=true∧InS T C r.2 x
 los:r.1=true→InS T C S (fun i c=>(atS r.2 i c).lo)∧ ∀k,k∈l→k.Sat fun i c=>(atS r.2 i c).lo
 his:r.1=true→InS T C S (fun i c=>(atS r.2 i c).hi)∧ ∀k,k∈l→k.Sat fun i c=>(atS r.2 i c).hi
theorem settle_spec {T C l}(hl:ItemsOk T C l): ∀(n:Nat) (S:CMat),Shape T C S→Near T C S→muS S+muK T C+1<n→0<n→SetSpec T C l S (settleF T C l n S)
 |0,_,_,_,_,h=>by omega
 |n+1,S,hS,hN,hmu,_=>by
   have h:=runI_spec l ⟨S,false⟩ hl.ok hS hN
   simp only[settleF]
   generalize runI l ⟨S,false⟩=r at h⊢
   obtain⟨⟨S',ch⟩,fin⟩:=r
   dsimp only at h⊢
   cases fin
   ·rw[if_neg (by simp)]
    refine⟨h.shape,h.near,h.le,fun x hx hs=> ?_,fun h=>by simp at h,fun h=>by simp at h⟩
    have:=(h.sol x hx hs).2;cases this
   ·rw[if_pos rfl]
    have hlow:=near_mu hl.pos hS hN fun i c hi hc=>h.chk rfl i c (hl.all i c hi hc)
    cases ch
    ·rw[if_neg (by simp)]
     obtain⟨e,hc⟩:=h.same rfl rfl
     dsimp only at e hc
     subst e
     have hcon: ∀k,k∈l→okS T C S'=true→k.Sat (fun i c=>(atS S' i c).lo)∧k.Sat (fun i c=>(atS S' i c).hi):=fun k hk ho=>by
      cases k with
      |chk=>exact⟨trivial,trivial⟩
      |dif k=>
        have hko:Dif.Ok T C k:=hl.ok _ hk
        obtain⟨_,c1,c2⟩:=difC_false hS hko (hc k hk)
        have hi:=hko.hi
        simp only[difA,difB,cutS]at c1 c2
        have a1:=congrArg CSp.lo c1
        have a2:=congrArg CSp.hi c1
        have a3:=congrArg CSp.lo c2
        have a4:=congrArg CSp.hi c2
        dsimp only at a1 a2 a3 a4
        simp only[Item.Sat,Dif.Sat]
        omega
     refine⟨hS,hN, .refl T C _,fun x hx hs=>⟨?_,hx⟩,fun ho=>⟨fun i c hi hc=>⟨Int.le_refl _,okS_iff.1 ho i c hi hc⟩,fun k hk=>(hcon k hk ho).1⟩,fun ho=>⟨fun i c hi hc=>⟨okS_iff.1 ho i c hi hc,Int.le_refl _⟩,fun k hk=>(hcon k hk ho).2⟩⟩
     exact okS_iff.2 fun i c hi hc=>by have:=hx i c hi hc;omega
    ·rw[if_pos rfl]
     have hm:=h.mu2 rfl rfl
     dsimp only at hm
     have ih:=settle_spec hl n S' h.shape h.near (by omega) (by omega)
     refine⟨ih.shape,ih.near,ih.le.trans h.le,fun x hx hs=>ih.yes x (h.sol x hx hs).1 hs,fun ho=> ?_,fun ho=> ?_⟩
     ·obtain⟨o1,o2⟩:=ih.los ho
      refine⟨fun i c hi hc=> ?_,o2⟩
      have:=o1 i c hi hc;have:=h.le i c hi hc;dsimp only at*;omega
     ·obtain⟨o1,o2⟩:=ih.his ho
      refine⟨fun i c hi hc=> ?_,o2⟩
      have:=o1 i c hi hc;have:=h.le i c hi hc;dsimp only at*;omega
end Go.Proofs.YtnglkclmplfnpaaGreat

/-
  Counts: what a trap says, for the program and for the reference: plain law.
-/
namespace Go.Proofs.YtnglkclmplfnpaaGreat
abbrev CTrap.C(t:CTrap):Nat:=t.chambers.toNat
abbrev CTrap.T(t:CTrap):Nat:=t.times.toNat
def wiB(n lo hi:Int):Bool:=decide (lo≤n)&&decide (n≤hi)
theorem wiB_iff {n lo hi:Int}:wiB n lo hi=true↔lo≤n∧n≤hi:=by simp[wiB]
def wordOk(t:CTrap)(w:CWord):Bool:=wiB w.time 0 (t.times-1)&&(wiB w.chamber 0 (t.chambers-1)&&(wiB w.hi 0 40&&wiB w.lo 0 w.hi))
structure TrapOk(t:CTrap):Prop where
 cc:1≤t.chambers∧t.chambers≤4
 tt:1≤t.times∧t.times≤5
 word: ∀w,w∈t.words→wordOk t w=true
 words:t.words.length≤9
 opn:(t.opn.length:Int)=t.times-1
theorem wordOk_iff {t w}:wordOk t w=true↔(0≤w.time∧w.time≤t.times-1)∧(0≤w.chamber∧w.chamber≤t.chambers-1)∧0≤w.lo∧w.lo≤w.hi∧w.hi≤40:=by
 simp only[wordOk,Bool.and_eq_true,wiB_iff]
 constructor
 ·rintro⟨h1,h2,h3,h4⟩;exact⟨h1,h2,by omega,by omega,by omega⟩
 ·rintro⟨h1,h2,h3,h4,h5⟩;exact⟨h1,h2,⟨by omega,by omega⟩,⟨by omega,by omega⟩⟩
def doorB(t:CTrap)(i c:Nat):Bool:=(t.opn.getD i []).any fun d=>decide (d=(c:Int))
structure Sol(t:CTrap)(x:Nat→Nat→Int):Prop where
 last: ∀i,i<t.T→x i t.C=0
 top: ∀i,i<t.T→x i 0≤40
 down: ∀i c,i<t.T→c<t.C→x i (c+1)≤x i c
 step: ∀i c,i+1<t.T→c<t.C→x i c≤x (i+1) c∧(doorB t i c=false→x (i+1) c≤x i c)
 word: ∀w,w∈t.words→w.lo≤x w.time.toNat w.chamber.toNat-x w.time.toNat (w.chamber.toNat+1)∧x w.time.toNat w.chamber.toNat-x w.time.toNat (w.chamber.toNat+1)≤w.hi
theorem Sol.range {t x}(h:Sol t x) {i:Nat}(hi:i<t.T): ∀k,k≤t.C→0≤x i (t.C-k)∧x i k≤40
 |0,_=>⟨by rw[Nat.sub_zero,h.last i hi];omega,h.top i hi⟩
 |k+1,hk=>by
   obtain⟨h1,h2⟩:=h.range hi k (by omega)
   have d1:=h.down i (t.C-(k+1)) hi (by omega)
   have d2:=h.down i k hi (by omega)
   rw[show t.C-(k+1)+1=t.C-k by omega]at d1
   omega
theorem Sol.nonneg {t x}(h:Sol t x) {i c:Nat}(hi:i<t.T)(hc:c≤t.C):0≤x i c∧x i c≤40:=by
 have h1:=(h.range hi (t.C-c) (by omega)).1
 have h2:=(h.range hi c hc).2
 rw[show t.C-(t.C-c)=c by omega]at h1
 exact⟨h1,h2⟩
def itemsC(t:CTrap)(i c:Nat):List Item:=
 .chk i c:: .dif ⟨i,c,i,c+1,0,40⟩::if i=0 then []else [.dif ⟨i,c,i-1,c,0,if doorB t (i-1) c=true then 40 else 0⟩]
def itemsI(t:CTrap)(i:Nat):List Item:=(List.range t.C).flatMap (itemsC t i)
def itemW(w:CWord):Item:= .dif ⟨w.time.toNat,w.chamber.toNat,w.time.toNat,w.chamber.toNat+1,w.lo,w.hi⟩
def items(t:CTrap):List Item:=(List.range t.T).flatMap (itemsI t) ++t.words.map itemW
theorem items_mem {t:CTrap} {k:Item}:k∈items t↔(∃i c,i<t.T∧c<t.C∧k∈itemsC t i c)∨ ∃w,w∈t.words∧k=itemW w:=by
 simp only[items,itemsI,List.mem_append,List.mem_flatMap,List.mem_range,List.mem_map]
 constructor
 ·rintro(⟨i,hi,c,hc,h⟩|⟨w,hw,rfl⟩)
  ·exact .inl ⟨i,c,hi,hc,h⟩
  ·exact .inr ⟨w,hw,rfl⟩
 ·rintro(⟨i,c,hi,hc,h⟩|⟨w,hw,rfl⟩)
  ·exact .inl ⟨i,hi,c,hc,h⟩
  ·exact .inr ⟨w,hw,rfl⟩
theorem itemsC_mem {t:CTrap} {i c:Nat} {k:Item}:k∈itemsC t i c↔k= .chk i c∨k= .dif ⟨i,c,i,c+1,0,40⟩∨i≠0∧k= .dif ⟨i,c,i-1,c,0,if doorB t (i-1) c=true then 40 else 0⟩:=by
 unfold itemsC
 by_cases h:i=0<;>simp[h]
theorem items_ok {t:CTrap}(h:TrapOk t):ItemsOk t.T t.C (items t) where
 ok k hk:=by
  rcases items_mem.1 hk with ⟨i,c,hi,hc,hk⟩|⟨w,hw,rfl⟩
  ·rcases itemsC_mem.1 hk with rfl|rfl|⟨h0,rfl⟩
   ·exact⟨hi,hc⟩
   ·exact⟨hi,hi,hc,hc,by simp,⟨Int.le_refl _,by dsimp only;omega⟩,⟨by dsimp only;omega,by dsimp only;omega⟩,fun e=>⟨rfl,e⟩⟩
   ·refine⟨hi,show i-1<_ by omega,hc,Nat.le_of_lt hc,fun e=> ?_,⟨Int.le_refl _,by dsimp only;omega⟩,by dsimp only;split<;>omega,fun e=> ?_⟩
    ·have:=e.1;dsimp only at this;omega
    ·dsimp only at e;omega
  ·have:=wordOk_iff.1 (h.word w hw)
   refine⟨?_,?_,?_,?_,by simp,⟨by dsimp only;omega,by dsimp only;omega⟩,⟨by dsimp only;omega,by dsimp only;omega⟩,fun e=>⟨rfl,e⟩⟩
   ·show w.time.toNat<t.times.toNat;omega
   ·show w.time.toNat<t.times.toNat;omega
   ·show w.chamber.toNat<t.chambers.toNat;omega
   ·show w.chamber.toNat+1≤t.chambers.toNat;omega
 all i c hi hc:=items_mem.2 (.inl ⟨i,c,hi,hc,itemsC_mem.2 (.inl rfl)⟩)
 pos:=by have:=h.cc;show 0<t.chambers.toNat;omega
def freeL(t:CTrap):CMat:=List.replicate t.T (List.replicate t.C ⟨0,40⟩ ++[⟨0,0⟩])
theorem free_shape(t:CTrap):Shape t.T t.C (freeL t) where
 len:=by simp[freeL]
 row i hi:=by simp[freeL,List.getD,hi]
theorem free_at(t:CTrap) {i c:Nat}(hi:i<t.T)(hc:c≤t.C):atS (freeL t) i c=if c=t.C then⟨0,0⟩else⟨0,40⟩:=by
 have e:(freeL t).getD i []=List.replicate t.C ⟨0,40⟩ ++[⟨0,0⟩]:=by simp[freeL,List.getD,hi]
 unfold atS;rw[e]
 by_cases h:c=t.C
 ·rw[if_pos h,h];simp[List.getD]
 ·have h2:c<t.C:=by omega
  rw[if_neg h];simp[List.getD,List.getElem?_append,h2]
theorem free_near(t:CTrap):Near t.T t.C (freeL t) where
 lo i c hi hc:=by rw[free_at t hi hc];split<;>decide
 hi i c hi hc:=by rw[free_at t hi hc];split<;>decide
 lastlo i c hi hc:=by rw[free_at t hi (Nat.le_refl _),if_pos rfl];dsimp only;omega
 lasthi i c hi hc:=by rw[free_at t hi (Nat.le_refl _),if_pos rfl];dsimp only;omega
theorem Sol.free {t x}(h:Sol t x):InS t.T t.C (freeL t) x:=fun i c hi hc=>by
 have:=h.nonneg hi hc
 rw[free_at t hi hc]
 split
 ·rename_i e;subst e;rw[h.last i hi];decide
 ·exact this
theorem Sol.sat {t x}(h:Sol t x)(k:Item)(hk:k∈items t):k.Sat x:=by
 rcases items_mem.1 hk with ⟨i,c,hi,hc,hk⟩|⟨w,hw,rfl⟩
 ·rcases itemsC_mem.1 hk with rfl|rfl|⟨h0,rfl⟩
  ·trivial
  ·have d:=h.down i c hi hc
   have b1:=h.nonneg hi (Nat.le_of_lt hc)
   have b2:=h.nonneg hi (show c+1≤t.C from hc)
   simp only[Item.Sat,Dif.Sat];omega
  ·have d:=h.step (i-1) c (by omega) hc
   have b1:=h.nonneg hi (Nat.le_of_lt hc)
   have b2:=h.nonneg (show i-1<t.T by omega) (Nat.le_of_lt hc)
   rw[show i-1+1=i by omega]at d
   simp only[Item.Sat,Dif.Sat]
   cases hd:doorB t (i-1) c
   ·have:=d.2 hd;simp;omega
   ·simp;omega
 ·exact h.word w hw
theorem sol_of {t x}(hF:InS t.T t.C (freeL t) x)(h: ∀k,k∈items t→k.Sat x):Sol t x where
 last i hi:=by have:=hF i t.C hi (Nat.le_refl _);rw[free_at t hi (Nat.le_refl _),if_pos rfl]at this;dsimp only at this;omega
 top i hi:=by
  have:=hF i 0 hi (Nat.zero_le _)
  rw[free_at t hi (Nat.zero_le _)]at this
  split at this<;>(dsimp only at this;omega)
 down i c hi hc:=by
  have:=h _ (items_mem.2 (.inl ⟨i,c,hi,hc,itemsC_mem.2 (.inr (.inl rfl))⟩))
  simp only[Item.Sat,Dif.Sat]at this;omega
 step i c hi hc:=by
  have:=h _ (items_mem.2 (.inl ⟨i+1,c,hi,hc,itemsC_mem.2 (.inr (.inr ⟨by omega,rfl⟩))⟩))
  simp only[Item.Sat,Dif.Sat,Nat.add_sub_cancel]at this
  refine⟨by omega,fun hd=> ?_⟩
  rw[hd]at this;simp at this;omega
 word w hw:=h _ (items_mem.2 (.inr ⟨w,hw,rfl⟩))
def setFuel(t:CTrap)(S:CMat):Nat:=(muS S+muK t.T t.C+2).toNat+1
def settleR(t:CTrap)(S:CMat):Bool×CMat:=settleF t.T t.C (items t) (setFuel t S) S
theorem settleR_spec {t:CTrap}(h:TrapOk t) {S:CMat}(hS:Shape t.T t.C S)(hN:Near t.T t.C S):SetSpec t.T t.C (items t) S (settleR t S):=
 settle_spec (items_ok h) _ S hS hN (by unfold setFuel;omega) (by unfold setFuel;omega)
def isOneB(t:CTrap):Bool:=(settleR t (freeL t)).1
theorem isOne_iff {t:CTrap}(h:TrapOk t):isOneB t=true↔ ∃x,Sol t x:=by
 have hs:=settleR_spec h (free_shape t) (free_near t)
 constructor
 ·intro h1
  obtain⟨a,b⟩:=hs.los h1
  exact⟨_,sol_of a b⟩
 ·rintro⟨x,hx⟩
  exact(hs.yes x hx.free hx.sat).1
structure DifOf(t:CTrap)(i c j d:Nat)(s:CSp):Prop where
 lo: ∃x,Sol t x∧s.lo=x i c-x j d
 hi: ∃x,Sol t x∧s.hi=x i c-x j d
 all: ∀x,Sol t x→s.lo≤x i c-x j d∧x i c-x j d≤s.hi
theorem DifOf.unique {t i c j d s s'}(h:DifOf t i c j d s)(h':DifOf t i c j d s'):s=s':=by
 obtain⟨x1,a1,b1⟩:=h.lo
 obtain⟨x2,a2,b2⟩:=h.hi
 obtain⟨x3,a3,b3⟩:=h'.lo
 obtain⟨x4,a4,b4⟩:=h'.hi
 have c1:=h'.all x1 a1
 have c2:=h'.all x2 a2
 have c3:=h.all x3 a3
 have c4:=h.all x4 a4
 obtain⟨l,u⟩:=s
 obtain⟨l',u'⟩:=s'
 dsimp only at*
 have e1:l=l':=by omega
 have e2:u=u':=by omega
 rw[e1,e2]
def difStep(t:CTrap)(i c j d:Nat)(b:Int)(o:CSp)(k:Nat):CSp:=
 let r:=settleR t (putS (freeL t) j d ⟨b+k,b+k⟩)
 if r.1=true then⟨min o.lo ((atS r.2 i c).lo-(b+k)),max o.hi ((atS r.2 i c).hi-(b+k))⟩else o
def difR(t:CTrap)(i c j d:Nat):CSp:=
 let a:=atS (settleR t (freeL t)).2 j d
 (List.range (a.hi+1-a.lo).toNat).foldl (difStep t i c j d a.lo) ⟨41,-41⟩
theorem put_near {t:CTrap} {j d:Nat}(hj:j<t.T)(hd:d≤t.C) {n:Int}(hn:0≤n∧n≤40)(h0:d=t.C→n=0):Near t.T t.C (putS (freeL t) j d ⟨n,n⟩) where
 lo i c hi hc:=by
  rw[(free_shape t).at_put hj hd hi]
  split
  ·exact hn.1
  ·exact(free_near t).lo i c hi hc
 hi i c hi hc:=by
  rw[(free_shape t).at_put hj hd hi]
  split
  ·exact hn.2
  ·exact(free_near t).hi i c hi hc
 lastlo i c hi hc:=by
  rw[(free_shape t).at_put hj hd hi,(free_shape t).at_put hj hd hi,free_at t hi (Nat.le_refl _),if_pos (c:=t.C=t.C) rfl]
  have hx:=(free_near t).lo i c hi (by omega)
  split
  ·rename_i e;have:=h0 e.2.symm;dsimp only;omega
  ·split<;>(dsimp only;omega)
 lasthi i c hi hc:=by
  rw[(free_shape t).at_put hj hd hi,(free_shape t).at_put hj hd hi,free_at t hi (Nat.le_refl _),if_pos (c:=t.C=t.C) rfl]
  have hx:=(free_near t).hi i c hi (by omega)
  by_cases e:i=j∧t.C=d
  ·have:=h0 e.2.symm
   rw[if_pos e,if_neg (by omega)];dsimp only;omega
  ·rw[if_neg e]
   split<;>(dsimp only;omega)
theorem dif_at {t:CTrap}(h:TrapOk t) {i c j d:Nat}(hi:i<t.T)(hc:c≤t.C)(hj:j<t.T)(hd:d≤t.C) {n:Int}(hn:0≤n∧n≤40)(h0:d=t.C→n=0):
 let r:=settleR t (putS (freeL t) j d ⟨n,n⟩)
 (r.1=true→(∃x,Sol t x∧x j d=n∧(atS r.2 i c).lo=x i c)∧ ∃x,Sol t x∧x j d=n∧(atS r.2 i c).hi=x i c)∧
 ∀x,Sol t x→x j d=n→r.1=true∧(atS r.2 i c).lo≤x i c∧x i c≤(atS r.2 i c).hi:=by
 intro r
 have hs:SetSpec t.T t.C (items t) (putS (freeL t) j d ⟨n,n⟩) r:=settleR_spec h ((free_shape t).put hj) (put_near hj hd hn h0)
 have hin: ∀x,InS t.T t.C (putS (freeL t) j d ⟨n,n⟩) x→InS t.T t.C (freeL t) x∧x j d=n:=fun x hx=>by
  have e:=hx j d hj hd
  rw[(free_shape t).at_put hj hd hj,if_pos ⟨rfl,rfl⟩]at e
  dsimp only at e
  refine⟨fun a b ha hb=> ?_,by omega⟩
  have:=hx a b ha hb
  rw[(free_shape t).at_put hj hd ha]at this
  split at this
  ·rename_i e2
   obtain⟨rfl,rfl⟩:=e2
   rw[free_at t ha hb]
   split
   ·rename_i e3;have:=h0 e3;dsimp only at*;omega
   ·dsimp only at*;omega
  ·exact this
 refine⟨fun hr=>⟨?_,?_⟩,fun x hx hxn=> ?_⟩
 ·obtain⟨a,b⟩:=hs.los hr
  obtain⟨a1,a2⟩:=hin _ a
  exact⟨_,sol_of a1 b,a2,rfl⟩
 ·obtain⟨a,b⟩:=hs.his hr
  obtain⟨a1,a2⟩:=hin _ a
  exact⟨_,sol_of a1 b,a2,rfl⟩
 ·have hx2:InS t.T t.C (putS (freeL t) j d ⟨n,n⟩) x:=fun a b ha hb=>by
   rw[(free_shape t).at_put hj hd ha]
   split
   ·rename_i e2
    obtain⟨rfl,rfl⟩:=e2
    dsimp only;omega
   ·exact hx.free a b ha hb
  obtain⟨a,b⟩:=hs.yes x hx2 hx.sat
  exact⟨a,b i c hi hc⟩
theorem difR_spec {t:CTrap}(h:TrapOk t)(hone: ∃x,Sol t x) {i c j d:Nat}(hi:i<t.T)(hc:c≤t.C)(hj:j<t.T)(hd:d≤t.C):DifOf t i c j d (difR t i c j d):=by
 have hs:=settleR_spec h (free_shape t) (free_near t)
 unfold difR
 have hall: ∀x,Sol t x→(atS (settleR t (freeL t)).2 j d).lo≤x j d∧x j d≤(atS (settleR t (freeL t)).2 j d).hi:=fun x hx=>(hs.yes x hx.free hx.sat).2 j d hj hd
 have hb0:=hs.le j d hj hd
 rw[free_at t hj hd]at hb0
 dsimp only
 generalize hA:atS (settleR t (freeL t)).2 j d=a at*
 obtain⟨lo,hi'⟩:=a
 dsimp only at*
 have hlo:0≤lo∧hi'≤40∧(d=t.C→hi'≤0):=by
  split at hb0
  ·dsimp only at hb0;omega
  ·rename_i e;dsimp only at hb0;exact⟨by omega,by omega,fun e2=>absurd e2 e⟩
 have key: ∀m:Nat,(m:Int)≤hi'+1-lo→
  ((List.range m).foldl (difStep t i c j d lo) ⟨41,-41⟩=⟨41,-41⟩∧(∀x,Sol t x→ ¬x j d<lo+m)∨
    (∃x,Sol t x∧((List.range m).foldl (difStep t i c j d lo) ⟨41,-41⟩).lo=x i c-x j d)∧(∃x,Sol t x∧((List.range m).foldl (difStep t i c j d lo) ⟨41,-41⟩).hi=x i c-x j d))∧
  ∀x,Sol t x→x j d<lo+m→((List.range m).foldl (difStep t i c j d lo) ⟨41,-41⟩).lo≤x i c-x j d∧x i c-x j d≤((List.range m).foldl (difStep t i c j d lo) ⟨41,-41⟩).hi:=by
  intro m
  induction m with
  |zero=>
    intro _
    refine⟨.inl ⟨rfl,fun x hx hlt=> ?_⟩,fun x hx hlt=> ?_⟩<;>(have:=hall x hx;omega)
  |succ m ih=>
    intro hm
    obtain⟨h1,h2⟩:=ih (by omega)
    rw[rangeSucc_fold]
    generalize (List.range m).foldl (difStep t i c j d lo) ⟨41,-41⟩=o at h1 h2⊢
    obtain⟨k1,k2⟩:=dif_at h hi hc hj hd (n:=lo+m) (by omega) (fun e=>by have:=hlo.2.2 e;omega)
    unfold difStep
    dsimp only
    generalize settleR t (putS (freeL t) j d ⟨lo+m,lo+m⟩)=r at k1 k2⊢
    by_cases hr:r.1=true
    ·rw[if_pos hr]
     obtain⟨⟨x1,a1,b1,e1⟩,x2,a2,b2,e2⟩:=k1 hr
     have g1:=a1.nonneg hi hc
     have g2:=a2.nonneg hi hc
     dsimp only
     refine⟨.inr ?_,fun x hx hlt=> ?_⟩
     ·rcases h1 with ⟨rfl,_⟩|⟨⟨y1,c1,f1⟩,y2,c2,f2⟩
      ·dsimp only
       exact⟨⟨x1,a1,by omega⟩,x2,a2,by omega⟩
      ·constructor
       ·by_cases q:o.lo≤(atS r.2 i c).lo-(lo+m)
        ·exact⟨y1,c1,by omega⟩
        ·exact⟨x1,a1,by omega⟩
       ·by_cases q:(atS r.2 i c).hi-(lo+m)≤o.hi
        ·exact⟨y2,c2,by omega⟩
        ·exact⟨x2,a2,by omega⟩
     ·by_cases e:x j d=lo+m
      ·have:=(k2 x hx e).2;omega
      ·have:=h2 x hx (by omega);omega
    ·rw[if_neg hr]
     have hno: ∀x,Sol t x→x j d≠lo+m:=fun x hx e=>hr (k2 x hx e).1
     refine⟨?_,fun x hx hlt=> ?_⟩
     ·rcases h1 with ⟨e,h3⟩|h3
      ·exact .inl ⟨e,fun x hx hlt=>by have:=h3 x hx;have:=hno x hx;omega⟩
      ·exact .inr h3
     ·have:=hno x hx;exact h2 x hx (by omega)
 obtain⟨x,hx⟩:=hone
 have hxr:=hall x hx
 obtain⟨h1,h2⟩:=key (hi'+1-lo).toNat (by omega)
 rcases h1 with ⟨_,h1⟩|⟨h1,h3⟩
 ·exact absurd (show x j d<lo+((hi'+1-lo).toNat:Nat)by omega) (h1 x hx)
 ·exact⟨h1,h3,fun y hy=>h2 y hy (by have:=hall y hy;omega)⟩
end Go.Proofs.YtnglkclmplfnpaaGreat

/-
  Counts: the program's differences are those of the reference: plain law.
-/
namespace Go.Proofs.YtnglkclmplfnpaaGreat
def nodeN(C i c:Nat):Nat:=if c=C then 0 else 1+i*C+c
structure Lim where
 a:Nat
 b:Nat
 most:Int
def limsC(t:CTrap)(i c:Nat):List Lim:=
 ⟨nodeN t.C i c,nodeN t.C i (c+1),0⟩::if i=0 then []else⟨nodeN t.C i c,nodeN t.C (i-1) c,0⟩::if doorB t (i-1) c=true then []else [⟨nodeN t.C (i-1) c,nodeN t.C i c,0⟩]
def limsI(t:CTrap)(i:Nat):List Lim:=⟨0,nodeN t.C i 0,40⟩::(List.range t.C).flatMap (limsC t i)
def limsW(C:Nat)(w:CWord):List Lim:=
 [⟨nodeN C w.time.toNat (w.chamber.toNat+1),nodeN C w.time.toNat w.chamber.toNat,w.hi⟩,⟨nodeN C w.time.toNat w.chamber.toNat,nodeN C w.time.toNat (w.chamber.toNat+1),-w.lo⟩]
def limsT(t:CTrap):List Lim:=(List.range t.T).flatMap (limsI t)
def lims(t:CTrap):List Lim:=limsT t ++t.words.flatMap (limsW t.C)
def limF(B:List Int)(l:Lim):List Int:=limL l.a l.b l.most B
def b0L:List Int:=(List.range 441).map fun j=>if j/21=j%21 then 0 else 1048576
def setB(t:CTrap):List Int:=(lims t).foldl limF b0L
theorem b0_get {i k:Nat}(hi:i<21)(hk:k<21):gB b0L i k=if i=k then 0 else 1048576:=by
 have h:21*i+k<441:=by omega
 have e1:(21*i+k)/21=i:=by omega
 have e2:(21*i+k)%21=k:=by omega
 simp[gB,b0L,List.getD,h,e1,e2]
def Much(y:Nat→Int):Prop:= ∀i k,i<21→k<21→y k-y i≤1048576
theorem b0_mat:MatB b0L Much where
 len:=by simp[b0L]
 sat y:=by
  constructor
  ·intro h i k hi hk
   have:=h i k hi hk
   rw[b0_get hi hk]at this
   split at this<;>omega
  ·intro h i k hi hk
   have:=h i k hi hk
   rw[b0_get hi hk]
   split
   ·rename_i e;subst e;omega
   ·exact this
 or:= .inl ⟨fun i hi=>by rw[b0_get hi hi,if_pos rfl],fun i j k hi hj hk=>by
  rw[b0_get hi hk,b0_get hi hj,b0_get hj hk]
  split
  ·split<;>split<;>omega
  ·rename_i e;split
   ·rename_i e2;subst e2;rw[if_neg e];omega
   ·split<;>omega⟩
theorem mat_fold: ∀(ls:List Lim) {B S},MatB B S→(∀l,l∈ls→l.a<21∧l.b<21)→MatB (ls.foldl limF B) fun y=>S y∧ ∀l,l∈ls→y l.b-y l.a≤l.most
 |[],B,S,h,_=>⟨h.len,fun y=>by rw[List.foldl_nil,h.sat];simp,h.or⟩
 |l::ls,B,S,h,hl=>by
   have h0:=hl l (List.mem_cons_self ..)
   have ih:=mat_fold ls (h.limit (m:=l.most) h0.1 h0.2) fun k hk=>hl k (List.mem_cons_of_mem _ hk)
   refine⟨ih.len,fun y=> ?_,ih.or⟩
   rw[List.foldl_cons]
   refine(ih.sat y).trans ?_
   simp only[List.mem_cons,forall_eq_or_imp,and_assoc]
theorem node_lt {t:CTrap}(h:TrapOk t) {i c:Nat}(hi:i<t.T)(hc:c≤t.C):nodeN t.C i c<21:=by
 have h1:=h.cc
 have h2:=h.tt
 have a1:i≤4:=by have:t.T=t.times.toNat:=rfl;omega
 have a2:t.C≤4:=by have:t.C=t.chambers.toNat:=rfl;omega
 have:=Nat.mul_le_mul a1 a2
 unfold nodeN;split
 ·omega
 ·omega
theorem lims_mem {t:CTrap} {l:Lim}:l∈lims t↔(∃i,i<t.T∧(l=⟨0,nodeN t.C i 0,40⟩∨ ∃c,c<t.C∧l∈limsC t i c))∨ ∃w,w∈t.words∧l∈limsW t.C w:=by
 simp only[lims,limsT,limsI,List.mem_append,List.mem_flatMap,List.mem_range,List.mem_cons]
theorem limsC_mem {t:CTrap} {i c:Nat} {l:Lim}:l∈limsC t i c↔l=⟨nodeN t.C i c,nodeN t.C i (c+1),0⟩∨i≠0∧(l=⟨nodeN t.C i c,nodeN t.C (i-1) c,0⟩∨doorB t (i-1) c=false∧l=⟨nodeN t.C (i-1) c,nodeN t.C i c,0⟩):=by
 unfold limsC
 by_cases h:i=0
 ·simp[h]
 ·cases hd:doorB t (i-1) c<;>simp[h]
theorem limsC_lt {t:CTrap}(h:TrapOk t) {i c:Nat}(hi:i<t.T)(hc:c<t.C) {l:Lim}(hl:l∈limsC t i c):l.a<21∧l.b<21∧l.most=0:=by
 have n1:=node_lt h hi (Nat.le_of_lt hc)
 have n2:=node_lt h hi (show c+1≤t.C from hc)
 rcases limsC_mem.1 hl with rfl|⟨h0,hl⟩
 ·exact⟨n1,n2,rfl⟩
 ·have n3:=node_lt h (show i-1<t.T by omega) (Nat.le_of_lt hc)
  rcases hl with rfl|⟨_,rfl⟩
  ·exact⟨n1,n3,rfl⟩
  ·exact⟨n3,n1,rfl⟩
theorem word_in {t:CTrap}(h:TrapOk t) {w:CWord}(hw:w∈t.words):w.time.toNat<t.T∧w.chamber.toNat<t.C:=by
 have:=wordOk_iff.1 (h.word w hw)
 have e1:t.T=t.times.toNat:=rfl
 have e2:t.C=t.chambers.toNat:=rfl
 omega
theorem limsW_lt {t:CTrap}(h:TrapOk t) {w:CWord}(hw:w∈t.words) {l:Lim}(hl:l∈limsW t.C w):l.a<21∧l.b<21∧ -40≤l.most∧l.most≤40:=by
 have hb:=wordOk_iff.1 (h.word w hw)
 obtain⟨h1,h2⟩:=word_in h hw
 have n1:=node_lt h h1 (Nat.le_of_lt h2)
 have n2:=node_lt h h1 (show w.chamber.toNat+1≤t.C from h2)
 simp only[limsW,List.mem_cons,List.not_mem_nil,or_false]at hl
 rcases hl with rfl|rfl
 ·exact⟨n2,n1,by dsimp only;omega,by dsimp only;omega⟩
 ·exact⟨n1,n2,by dsimp only;omega,by dsimp only;omega⟩
theorem lims_lt {t:CTrap}(h:TrapOk t) {l:Lim}(hl:l∈lims t):l.a<21∧l.b<21∧ -40≤l.most∧l.most≤40:=by
 rcases lims_mem.1 hl with ⟨i,hi,rfl|⟨c,hc,hl⟩⟩|⟨w,hw,hl⟩
 ·exact⟨show 0<21 by decide,node_lt h hi (Nat.zero_le _),by dsimp only;omega,by dsimp only;omega⟩
 ·have:=limsC_lt h hi hc hl;omega
 ·exact limsW_lt h hw hl
theorem setB_mat {t:CTrap}(h:TrapOk t):MatB (setB t) fun y=>Much y∧ ∀l,l∈lims t→y l.b-y l.a≤l.most:=
 mat_fold _ b0_mat fun l hl=>by have:=lims_lt h hl;omega
def nodY(t:CTrap)(x:Nat→Nat→Int)(n:Nat):Int:=if n=0∨t.T*t.C<n then 0 else x ((n-1)/t.C) ((n-1)%t.C)
theorem nodY_at {t:CTrap}(h:TrapOk t) {x}(hx:Sol t x) {i c:Nat}(hi:i<t.T)(hc:c≤t.C):nodY t x (nodeN t.C i c)=x i c:=by
 unfold nodeN
 by_cases e:c=t.C
 ·rw[if_pos e,e,hx.last i hi];rfl
 ·have hc2:c<t.C:=by omega
  have hm:i*t.C+t.C≤t.T*t.C:=by
   have:=Nat.mul_le_mul_right t.C (show i+1≤t.T from hi)
   rwa [Nat.add_mul,Nat.one_mul]at this
  have e1:(1+i*t.C+c-1)/t.C=i:=by
   rw[show 1+i*t.C+c-1=c+i*t.C by omega,Nat.add_mul_div_right _ _ (by omega),Nat.div_eq_of_lt hc2];omega
  have e2:(1+i*t.C+c-1)%t.C=c:=by
   rw[show 1+i*t.C+c-1=c+i*t.C by omega,Nat.add_mul_mod_self_right,Nat.mod_eq_of_lt hc2]
  rw[if_neg e]
  unfold nodY
  rw[if_neg (by omega),e1,e2]
theorem nodY_range {t:CTrap} {x}(hx:Sol t x)(n:Nat):0≤nodY t x n∧nodY t x n≤40:=by
 unfold nodY
 split
 ·omega
 ·rename_i h
  have hC:0<t.C:=by
   rcases Nat.eq_zero_or_pos t.C with e|e
   ·rw[e]at h;omega
   ·exact e
  refine hx.nonneg ?_ (Nat.le_of_lt (Nat.mod_lt _ hC))
  rw[Nat.div_lt_iff_lt_mul hC];omega
theorem nodY_sat {t:CTrap}(h:TrapOk t) {x}(hx:Sol t x):Much (nodY t x)∧ ∀l,l∈lims t→nodY t x l.b-nodY t x l.a≤l.most:=by
 refine⟨fun i k _ _=>by have:=nodY_range hx i;have:=nodY_range hx k;omega,fun l hl=> ?_⟩
 rcases lims_mem.1 hl with ⟨i,hi,rfl|⟨c,hc,hl⟩⟩|⟨w,hw,hl⟩
 ·dsimp only
  rw[nodY_at h hx hi (Nat.zero_le _)]
  have:=hx.top i hi
  have e:nodY t x 0=0:=rfl
  omega
 ·have n1:=nodY_at h hx hi (Nat.le_of_lt hc)
  have n2:=nodY_at h hx hi (show c+1≤t.C from hc)
  rcases limsC_mem.1 hl with rfl|⟨h0,hl⟩
  ·dsimp only;have:=hx.down i c hi hc;omega
  ·have n3:=nodY_at h hx (show i-1<t.T by omega) (Nat.le_of_lt hc)
   have hs:=hx.step (i-1) c (by omega) hc
   rw[show i-1+1=i by omega]at hs
   rcases hl with rfl|⟨hd,rfl⟩
   ·dsimp only;omega
   ·have:=hs.2 hd;dsimp only;omega
 ·obtain⟨h1,h2⟩:=word_in h hw
  have n1:=nodY_at h hx h1 (Nat.le_of_lt h2)
  have n2:=nodY_at h hx h1 (show w.chamber.toNat+1≤t.C from h2)
  have:=hx.word w hw
  simp only[limsW,List.mem_cons,List.not_mem_nil,or_false]at hl
  rcases hl with rfl|rfl<;>(dsimp only;omega)
theorem sol_of_node {t:CTrap} {y:Nat→Int}(hy: ∀l,l∈lims t→y l.b-y l.a≤l.most):Sol t fun i c=>y (nodeN t.C i c)-y 0 where
 last i hi:=by unfold nodeN;rw[if_pos rfl];omega
 top i hi:=hy _ (lims_mem.2 (.inl ⟨i,hi, .inl rfl⟩))
 down i c hi hc:=by
  have:=hy _ (lims_mem.2 (.inl ⟨i,hi, .inr ⟨c,hc,limsC_mem.2 (.inl rfl)⟩⟩))
  dsimp only at this⊢;omega
 step i c hi hc:=by
  have h1:=hy _ (lims_mem.2 (.inl ⟨i+1,hi, .inr ⟨c,hc,limsC_mem.2 (.inr ⟨by omega, .inl rfl⟩)⟩⟩))
  simp only[Nat.add_sub_cancel]at h1
  refine⟨by omega,fun hd=> ?_⟩
  have h2:=hy _ (lims_mem.2 (.inl ⟨i+1,hi, .inr ⟨c,hc,limsC_mem.2 (.inr ⟨by omega, .inr ⟨hd,rfl⟩⟩)⟩⟩))
  simp only[Nat.add_sub_cancel]at h2
  omega
 word w hw:=by
  have h1:=hy _ (lims_mem.2 (.inr ⟨w,hw,List.mem_cons_self ..⟩))
  have h2:=hy _ (lims_mem.2 (.inr ⟨w,hw,List.mem_cons_of_mem _ (List.mem_cons_self ..)⟩))
  dsimp only at h1 h2⊢;omega
def clashB(B:List Int):Bool:=(List.range 21).any fun i=>decide (gB B i i<0)
theorem clashB_iff {B}:clashB B=true↔ClashB B:=by
 simp only[clashB,List.any_eq_true,List.mem_range,decide_eq_true_eq];rfl
theorem clash_iff {t:CTrap}(h:TrapOk t):clashB (setB t)=false↔ ∃x,Sol t x:=by
 have hm:=setB_mat h
 constructor
 ·intro hc
  have hcl:=hm.diag fun h=>by have:=clashB_iff.2 h;rw[hc]at this;cases this
  have:=(hm.sat _).1 (hcl.upB (f:=0) (by decide))
  exact⟨_,sol_of_node this.2⟩
 ·rintro⟨x,hx⟩
  cases hc:clashB (setB t)
  ·rfl
  ·exact absurd ((hm.sat _).2 (nodY_sat h hx)) ((clashB_iff.1 hc).none _)
def betwS(B:List Int)(a b:Nat):CSp:=⟨-gB B b a,gB B a b⟩
theorem betw_spec {t:CTrap}(h:TrapOk t)(hone: ∃x,Sol t x) {i c j d:Nat}(hi:i<t.T)(hc:c≤t.C)(hj:j<t.T)(hd:d≤t.C):DifOf t i c j d (betwS (setB t) (nodeN t.C j d) (nodeN t.C i c)):=by
 have hm:=setB_mat h
 have hcl:=hm.diag fun hc=>by have:=clashB_iff.2 hc;rw[(clash_iff h).2 hone]at this;cases this
 have n1:=node_lt h hi hc
 have n2:=node_lt h hj hd
 have d1:=hcl.diag _ n1
 have d2:=hcl.diag _ n2
 refine⟨⟨_,sol_of_node (y:=fun k=> -gB (setB t) k (nodeN t.C j d)) ((hm.sat _).1 (hcl.loB n2)).2,?_⟩,⟨_,sol_of_node (y:=fun k=>gB (setB t) (nodeN t.C j d) k) ((hm.sat _).1 (hcl.upB n2)).2,?_⟩,fun x hx=> ?_⟩
 ·simp only[betwS];omega
 ·simp only[betwS];omega
 ·have hy:=(hm.sat _).2 (nodY_sat h hx)
  have a1:=hy _ _ n1 n2
  have a2:=hy _ _ n2 n1
  rw[nodY_at h hx hi hc,nodY_at h hx hj hd]at a1 a2
  simp only[betwS];omega
theorem betw_eq {t:CTrap}(h:TrapOk t)(hone: ∃x,Sol t x) {i c j d:Nat}(hi:i<t.T)(hc:c≤t.C)(hj:j<t.T)(hd:d≤t.C):betwS (setB t) (nodeN t.C j d) (nodeN t.C i c)=difR t i c j d:=
 (betw_spec h hone hi hc hj hd).unique (difR_spec h hone hi hc hj hd)
structure MagB(B:List Int)(M:Int):Prop where
 len:B.length=441
 lo: ∀i k,i<21→k<21→ -M≤gB B i k
 hi: ∀i k,i<21→k<21→gB B i k≤1048576
theorem MagB.limit {B M}(h:MagB B M)(hM:0≤M) {l:Lim}(hl:l.a<21∧l.b<21∧ -40≤l.most):MagB (limF B l) (6*M+200) where
 len:=limL_length h.len hl.1 hl.2.1
 lo i k hi hk:=limL_low h.len hl.1 hl.2.1 h.lo hM hl.2.2 i k hi hk
 hi i k hi hk:=Int.le_trans (limL_le h.len hl.1 hl.2.1 i k hi hk) (h.hi i k hi hk)
def magN:Nat→Int
 |0=>0
 |n+1=>6*magN n+200
theorem magN_nonneg: ∀n,0≤magN n
 |0=>Int.le_refl _
 |n+1=>by have:=magN_nonneg n;simp only[magN];omega
theorem magN_mono {n m:Nat}(h:n≤m):magN n≤magN m:=by
 induction m with
 | zero => obtain rfl : n = 0 := by omega
           exact Int.le_refl _
 |succ m ih=>
   by_cases e:n=m+1
   ·rw[e];exact Int.le_refl _
   ·have:=ih (by omega);have:=magN_nonneg m;simp only[magN];omega
theorem mag_fold: ∀(ls:List Lim) (n:Nat) {B},MagB B (magN n)→(∀l,l∈ls→l.a<21∧l.b<21∧ -40≤l.most)→MagB (ls.foldl limF B) (magN (n+ls.length))
 |[],n,B,h,_=>h
 |l::ls,n,B,h,hl=>by
   have:=mag_fold ls (n+1) (B:=limF B l) (h.limit (magN_nonneg n) (hl l (List.mem_cons_self ..))) fun k hk=>hl k (List.mem_cons_of_mem _ hk)
   rw[List.foldl_cons,List.length_cons,show n+(ls.length+1)=n+1+ls.length by omega]
   exact this
theorem mag_door {B S}(h:MatB B S)(hz:S fun _=>0)(hh: ∀i k,i<21→k<21→gB B i k≤1048576):MagB B (magN 0):=
 ⟨h.len,fun i k hi hk=>by have:=(h.sat _).2 hz i k hi hk;simp only[magN];omega,hh⟩
theorem fold_hi: ∀(ls:List Lim) {B},B.length=441→(∀l,l∈ls→l.a<21∧l.b<21)→(∀i k,i<21→k<21→gB B i k≤1048576)→ ∀i k,i<21→k<21→gB (ls.foldl limF B) i k≤1048576
 |[],_,_,_,h=>h
 |l::ls,B,hB,hl,h=>by
   have h0:=hl l (List.mem_cons_self ..)
   exact fold_hi ls (B:=limF B l) (limL_length hB h0.1 h0.2) (fun k hk=>hl k (List.mem_cons_of_mem _ hk)) fun i k hi hk=>Int.le_trans (limL_le hB h0.1 h0.2 i k hi hk) (h i k hi hk)
theorem mag_doors(ls:List Lim)(hl: ∀l,l∈ls→l.a<21∧l.b<21∧0≤l.most):MagB (ls.foldl limF b0L) (magN 0):=by
 refine mag_door (mat_fold ls b0_mat fun l h=>by have:=hl l h;omega) ⟨fun _ _ _ _=>by dsimp only;omega,fun l h=>by have:=hl l h;dsimp only;omega⟩ (fold_hi ls (by simp[b0L]) (fun l h=>by have:=hl l h;omega) fun i k hi hk=> ?_)
 rw[b0_get hi hk];split<;>omega
theorem magN_18:magN 18≤10000000000000000:=by decide
theorem MagB.weaken {B M N}(h:MagB B M)(hMN:M≤N):MagB B N:=⟨h.len,fun i k hi hk=>by have:=h.lo i k hi hk;omega,h.hi⟩
def DoorB(B:List Int):Prop:= ∃ls:List Lim,B=ls.foldl limF b0L∧ ∀l,l∈ls→l.a<21∧l.b<21∧0≤l.most
theorem DoorB.start:DoorB b0L:=⟨[],rfl,by simp⟩
theorem DoorB.mag {B}(h:DoorB B):MagB B (magN 0):=by
 obtain⟨ls,rfl,hl⟩:=h
 exact mag_doors ls hl
theorem DoorB.lim {B}(h:DoorB B) {l:Lim}(hl:l.a<21∧l.b<21∧0≤l.most):DoorB (limF B l):=by
 obtain⟨ls,rfl,h1⟩:=h
 exact⟨ls ++[l],by rw[List.foldl_append];rfl,fun k hk=>by
  rcases List.mem_append.1 hk with hk|hk
  ·exact h1 k hk
  ·rw[List.mem_singleton]at hk;subst hk;exact hl⟩
theorem DoorB.lims: ∀(ls:List Lim) {B},DoorB B→(∀l,l∈ls→l.a<21∧l.b<21∧0≤l.most)→DoorB (ls.foldl limF B)
 |[],_,h,_=>h
 |l::ls,_,h,hl=>DoorB.lims ls (h.lim (hl l (List.mem_cons_self ..))) fun k hk=>hl k (List.mem_cons_of_mem _ hk)
theorem limsW_len(C:Nat): ∀ws:List CWord,(ws.flatMap (limsW C)).length=2*ws.length
 |[]=>rfl
 |w::ws=>by rw[List.flatMap_cons,List.length_append,limsW_len C ws];simp[limsW];omega
theorem mag_some {t:CTrap}(h:TrapOk t) {D}(hD:DoorB D)(ws:List CWord)(hw: ∀w,w∈ws→w∈t.words):MagB ((ws.flatMap (limsW t.C)).foldl limF D) (magN (2*ws.length)):=by
 have h1:=mag_fold (ws.flatMap (limsW t.C)) 0 hD.mag fun l hl=>by
  obtain⟨w,hw1,hl⟩:=List.mem_flatMap.1 hl
  have:=limsW_lt h (hw w hw1) hl;omega
 rw[limsW_len,Nat.zero_add]at h1
 exact h1
theorem magN_small {n:Nat}(h:n≤18):magN n≤10000000000000000:=Int.le_trans (magN_mono h) magN_18
end Go.Proofs.YtnglkclmplfnpaaGreat

/-
  Counts: fewer words, one word more, what is known of a word: plain law.
-/
namespace Go.Proofs.YtnglkclmplfnpaaGreat
theorem ClosedB.mid {B}(h:ClosedB B) {f g:Nat}(hf:f<21)(hg:g<21) {v:Int}(h1: -gB B g f≤v)(h2:v≤gB B f g):
 SatB B (fun k=>min (gB B f k) (v+gB B g k))∧min (gB B f f) (v+gB B g f)=0∧min (gB B f g) (v+gB B g g)=v:=by
 have d1:=h.diag f hf
 have d2:=h.diag g hg
 refine⟨fun i k hi hk=> ?_,by omega,by omega⟩
 have t1:=h.tri f i k hf hi hk
 have t2:=h.tri g i k hg hi hk
 dsimp only;omega
theorem DifOf.mid {t:CTrap}(h:TrapOk t) {i c j d:Nat}(hi:i<t.T)(hc:c≤t.C)(hj:j<t.T)(hd:d≤t.C) {s:CSp}(hs:DifOf t i c j d s) {v:Int}(h1:s.lo≤v)(h2:v≤s.hi): ∃x,Sol t x∧x i c-x j d=v:=by
 have hone: ∃x,Sol t x:=by obtain⟨x,hx,_⟩:=hs.lo;exact⟨x,hx⟩
 have e:=hs.unique (betw_spec h hone hi hc hj hd)
 subst e
 have hm:=setB_mat h
 have hcl:=hm.diag fun hc=>by have:=clashB_iff.2 hc;rw[(clash_iff h).2 hone]at this;cases this
 have n1:=node_lt h hi hc
 have n2:=node_lt h hj hd
 obtain⟨a1,a2,a3⟩:=hcl.mid n2 n1 (v:=v) h1 h2
 refine⟨_,sol_of_node (y:=fun k=>min (gB (setB t) (nodeN t.C j d) k) (v+gB (setB t) (nodeN t.C i c) k)) ((hm.sat _).1 a1).2,?_⟩
 omega
structure Less(t o:CTrap):Prop where
 cc:o.chambers=t.chambers
 tt:o.times=t.times
 opn:o.opn=t.opn
 words: ∀w,w∈o.words→w∈t.words
theorem Less.sol {t o x}(h:Less t o)(hx:Sol t x):Sol o x:=by
 have eT:o.T=t.T:=by show o.times.toNat=t.times.toNat;rw[h.tt]
 have eC:o.C=t.C:=by show o.chambers.toNat=t.chambers.toNat;rw[h.cc]
 have eD: ∀i c,doorB o i c=doorB t i c:=fun i c=>by simp[doorB,h.opn]
 exact⟨fun i hi=>by rw[eC];exact hx.last i (by rwa [←eT]),fun i hi=>hx.top i (by rwa [←eT]),fun i c hi hc=>hx.down i c (by rwa [←eT]) (by rwa [←eC]),fun i c hi hc=>by rw[eD];exact hx.step i c (by rwa [←eT]) (by rwa [←eC]),fun w hw=>hx.word w (h.words w hw)⟩
theorem Less.dif {t o i c j d s s'}(h:Less t o)(hs:DifOf t i c j d s)(hs':DifOf o i c j d s'):s'.lo≤s.lo∧s.lo≤s.hi∧s.hi≤s'.hi:=by
 obtain⟨x1,a1,b1⟩:=hs.lo
 obtain⟨x2,a2,b2⟩:=hs.hi
 have c1:=hs'.all x1 (h.sol a1)
 have c2:=hs'.all x2 (h.sol a2)
 have c3:=hs.all x1 a1
 omega
def toldT(t:CTrap)(w:CWord):CTrap:= {t with words:=t.words ++[w]}
def judgeS(s:CSp)(w:CWord):Int:=if w.lo≤s.lo∧s.hi≤w.hi then 1 else if w.hi<s.lo∨s.hi<w.lo then 2 else 3
def lessT(t:CTrap)(p:CWord→Bool):CTrap:= {t with words:=t.words.filter p}
theorem lessT_less(t p):Less t (lessT t p):=⟨rfl,rfl,rfl,fun _ h=>(List.mem_filter.1 h).1⟩
theorem Less.ok {t o}(h:Less t o)(ht:TrapOk t)(hl:o.words.length≤9):TrapOk o where
 cc:=by rw[h.cc];exact ht.cc
 tt:=by rw[h.tt];exact ht.tt
 word w hw:=by
  have:=ht.word w (h.words w hw)
  unfold wordOk at this⊢
  rw[h.cc,h.tt];exact this
 words:=hl
 opn:=by rw[h.opn,h.tt];exact ht.opn
theorem lessT_ok {t:CTrap}(ht:TrapOk t)(p):TrapOk (lessT t p):=(lessT_less t p).ok ht (Nat.le_trans (List.length_filter_le ..) ht.words)
end Go.Proofs.YtnglkclmplfnpaaGreat

/-
  Watch: lists of times, in order; guesses as bits: plain law.
-/
namespace Go.Proofs.YtnglkclmplfnpaaGreat
def lexL:List Int→List Int→Int
 |[],b=>if 0<b.length then -1 else 0
 |_::_,[]=>1
 |x::a,y::b=>if x<y then -1 else if y<x then 1 else lexL a b
theorem lexL_self: ∀a,lexL a a=0
 |[]=>by simp[lexL]
 |x::a=>by simp[lexL,lexL_self a]
theorem lexL_trans: ∀a b c,lexL a b<0→lexL b c<0→lexL a c<0
 |[],b,[]=>by
   intro h h'
   cases b<;>simp[lexL]at h h'
 |[],_,_::_=>by intro _ _;simp[lexL]
 |x::a,[],c=>by simp[lexL]
 |x::a,y::b,[]=>by simp[lexL]
 |x::a,y::b,z::c=>by
   intro h h'
   simp only[lexL]at h h'⊢
   by_cases h1:x<y<;>by_cases h2:y<z<;>by_cases h3:y<x<;>by_cases h4:z<y<;>simp only[h1,h2,h3,h4,if_true,if_false]at h h'<;>
    first|omega|(rw[if_pos (by omega)];omega)|(rw[if_neg (by omega),if_neg (by omega)];exact lexL_trans a b c h h')
theorem lexL_eq: ∀a b,¬lexL a b<0→ ¬lexL b a<0→a=b
 |[],[]=>by simp
 |[],_::_=>by simp[lexL]
 |_::_,[]=>by simp[lexL]
 |x::a,y::b=>by
   intro h h'
   simp only[lexL]at h h'
   by_cases h1:x<y<;>by_cases h2:y<x<;>simp only[h1,h2,if_true,if_false]at h h'<;>first|omega|(have:=lexL_eq a b h h';subst this;rw[show x=y by omega])
def cmpL(a b:List Int):Int:=if (a.length:Int)-b.length≠0 then(a.length:Int)-b.length else lexL a b
theorem cmpL_lt(a b:List Int):cmpL a b<0↔a.length<b.length∨a.length=b.length∧lexL a b<0:=by
 unfold cmpL;split<;>omega
theorem cmpL_irr(a:List Int): ¬cmpL a a<0:=by rw[cmpL_lt,lexL_self];omega
theorem cmpL_trans(a b c:List Int)(h:cmpL a b<0)(h':cmpL b c<0):cmpL a c<0:=by
 rw[cmpL_lt]at*
 rcases h with h|⟨h,h1⟩<;>rcases h' with h'|⟨h',h2⟩
 ·left;omega
 ·left;omega
 ·left;omega
 ·right;exact⟨by omega,lexL_trans a b c h1 h2⟩
theorem cmpL_eq(a b:List Int)(h: ¬cmpL a b<0)(h': ¬cmpL b a<0):a=b:=by
 rw[cmpL_lt]at h h'
 have e:a.length=b.length:=by omega
 exact lexL_eq a b (fun x=>h (.inr ⟨e,x⟩)) (fun x=>h' (.inr ⟨e.symm,x⟩))
def fromOf(f:List Int):Nat:=match f.getLast? with
 |some x=>(x+1).toNat
 |none=>0
def listsP:Nat→List Int→Nat→List (List Int)
 |0,f,_=>[f]
 |m+1,f,b=>(List.range' (fromOf f) (b-fromOf f)).flatMap fun(n:Nat)=>listsP m (f ++[(n:Int)]) b
theorem fromOf_snoc(f:List Int)(n:Nat):fromOf (f ++[(n:Int)])=n+1:=by
 unfold fromOf;rw[List.getLast?_append];simp
theorem lists_mem: ∀(m:Nat) (f:List Int) (b:Nat) (x:List Int),x∈listsP m f b↔ ∃g:List Int,x=f ++g∧g.length=m∧g.Pairwise (· < ·)∧ ∀y∈g,(fromOf f:Int)≤y∧y<b
 |0,f,b,x=>by
   simp only[listsP,List.mem_singleton]
   constructor
   ·rintro rfl;exact⟨[],by simp,rfl, .nil,by simp⟩
   ·rintro⟨g,rfl,h,_,_⟩
    rw[List.eq_nil_of_length_eq_zero h,List.append_nil]
 |m+1,f,b,x=>by
   simp only[listsP,List.mem_flatMap,List.mem_range']
   constructor
   ·rintro⟨n,⟨i,hi,rfl⟩,h⟩
    obtain⟨g,rfl,h1,h2,h3⟩:=(lists_mem m _ b x).1 h
    rw[fromOf_snoc]at h3
    refine⟨((fromOf f+1*i:Nat):Int)::g,by simp,by simp[h1],List.pairwise_cons.2 ⟨fun y hy=>by have:=h3 y hy;omega,h2⟩,fun y hy=> ?_⟩
    rcases List.mem_cons.1 hy with rfl|hy
    ·omega
    ·have:=h3 y hy;omega
   ·rintro⟨g,rfl,h1,h2,h3⟩
    match g,h1 with
    |y::g,h1=>
      have hy:=h3 y (by simp)
      obtain⟨n,rfl⟩: ∃n:Nat,y=n:=⟨y.toNat,by omega⟩
      refine⟨n,⟨n-fromOf f,by omega,by omega⟩,(lists_mem m _ b _).2 ⟨g,by simp,by simpa using h1,(List.pairwise_cons.1 h2).2,fun z hz=> ?_⟩⟩
      rw[fromOf_snoc]
      have a1:=(List.pairwise_cons.1 h2).1 z hz
      have a2:=h3 z (by simp[hz])
      omega
theorem lex_append: ∀(f a b:List Int),lexL (f ++a) (f ++b)=lexL a b
 |[],_,_=>rfl
 |x::f,a,b=>by
   rw[List.cons_append,List.cons_append,lexL,if_neg (by omega),if_neg (by omega)];exact lex_append f a b
theorem lists_sorted: ∀(m:Nat) (f:List Int) (b:Nat),(listsP m f b).Pairwise fun x y=>lexL x y<0
 |0,f,b=>by simp[listsP]
 |m+1,f,b=>by
   rw[listsP,List.pairwise_flatMap]
   refine⟨fun n _=>lists_sorted m _ b,?_⟩
   refine(List.pairwise_lt_range' (s:=fromOf f) (n:=b-fromOf f)).imp ?_
   intro n k hnk x hx y hy
   obtain⟨g,rfl,_⟩:=(lists_mem m _ b x).1 hx
   obtain⟨h,rfl,_⟩:=(lists_mem m _ b y).1 hy
   rw[List.append_assoc,List.append_assoc,lex_append,List.singleton_append,List.singleton_append,lexL,if_pos (by omega)]
   decide
def allL(n:Nat):List (List Int):=[]::(List.range' 1 n).flatMap fun m=>listsP m [] n
theorem pair_lenL: ∀ {l:List Int} {lo n:Nat},l.Pairwise (· < ·)→(∀x∈l,(lo:Int)≤x∧x<n)→l.length+lo≤max lo n
 |[],_,_,_,_=>by simp;omega
 |x::l,lo,n,h,hb=>by
   have h1:=hb x (by simp)
   have:=pair_lenL (l:=l) (lo:=lo+1) (n:=n) (List.Pairwise.of_cons h) fun y hy=>by
    have:=List.rel_of_pairwise_cons h hy
    have:=hb y (by simp[hy])
    omega
   simp only[List.length_cons];omega
theorem allL_mem {n:Nat} {x:List Int}:x∈allL n↔x.Pairwise (· < ·)∧ ∀y∈x,0≤y∧y<n:=by
 simp only[allL,List.mem_cons,List.mem_flatMap,List.mem_range']
 constructor
 ·rintro(rfl|⟨m,_,h⟩)
  ·exact⟨.nil,by simp⟩
  ·obtain⟨g,rfl,_,h2,h3⟩:=(lists_mem m [] n x).1 h
   exact⟨h2,h3⟩
 ·rintro⟨h1,h2⟩
  by_cases h0:x=[]
  ·exact .inl h0
  ·right
   have hl:=List.length_pos_iff.2 h0
   have:=pair_lenL (lo:=0) (n:=n) h1 h2
   exact⟨x.length,⟨x.length-1,by omega,by omega⟩,(lists_mem _ [] n x).2 ⟨x,rfl,rfl,h1,h2⟩⟩
theorem allL_sorted(n:Nat):(allL n).Pairwise fun a b=>cmpL a b<0:=by
 rw[allL,List.pairwise_cons]
 constructor
 ·intro x hx
  simp only[List.mem_flatMap,List.mem_range']at hx
  obtain⟨m,⟨i,_,rfl⟩,h⟩:=hx
  obtain⟨g,rfl,h1,_⟩:=(lists_mem _ [] n x).1 h
  rw[cmpL_lt];left;simp[h1];omega
 ·rw[List.pairwise_flatMap]
  refine⟨fun m _=> ?_,?_⟩
  ·refine List.Pairwise.imp_of_mem ?_ (lists_sorted m [] n)
   intro a b ha hb h
   obtain⟨g,rfl,h1,_⟩:=(lists_mem _ [] n a).1 ha
   obtain⟨k,rfl,h2,_⟩:=(lists_mem _ [] n b).1 hb
   rw[cmpL_lt];right;exact⟨by simp[h1,h2],h⟩
  ·refine(List.pairwise_lt_range' (s:=1) (n:=n)).imp ?_
   intro m k hmk x hx y hy
   obtain⟨g,rfl,h1,_⟩:=(lists_mem _ [] n x).1 hx
   obtain⟨h,rfl,h2,_⟩:=(lists_mem _ [] n y).1 hy
   rw[cmpL_lt];left;simp[h1,h2];exact hmk
def bitsL(g:Nat):List Int:=((List.range 5).filter fun n=>g.testBit n).map fun(n:Nat)=>(n:Int)
def maskL(l:List Int):Nat:=l.foldl (fun g n=>g|||(1<<<n.toNat)) 0
theorem mask_bits: ∀g,g<32→maskL (bitsL g)=g:=by decide +kernel
theorem bits_mask: ∀l,l∈allL 5→bitsL (maskL l)=l:=by decide +kernel
theorem mask_lt: ∀T,T<6→ ∀l,l∈allL T→maskL l<2^T:=by decide +kernel
theorem allL_up {T:Nat}(h:T<6) {l:List Int}(hl:l∈allL T):l∈allL 5:=by
 obtain⟨h1,h2⟩:=allL_mem.1 hl
 exact allL_mem.2 ⟨h1,fun y hy=>by have:=h2 y hy;omega⟩
theorem bits_inj {g h:Nat}(hg:g<32)(hh:h<32)(e:bitsL g=bitsL h):g=h:=by rw[←mask_bits g hg,←mask_bits h hh,e]
def runAt(l:List Int):Nat→Nat
 |0=>if l.contains 0 then 1 else 0
 |n+1=>if l.contains ((n:Int)+1)then runAt l n+1 else 0
structure WBook where
 trap:CTrap
 drunk:Int
 run:Int
 sober:List Int
 deriving DecidableEq,Inhabited
abbrev WBook.T(b:WBook):Nat:=b.trap.T
def canB(b:WBook)(l:List Int):Bool:=decide ((l.length:Int)≤b.drunk)&&l.all fun n=>decide ((runAt l n.toNat:Int)≤b.run)&& !b.sober.contains n
def trapOf(b:WBook)(l:List Int):CTrap:=lessT b.trap fun w=> !l.contains w.time
def storyB(b:WBook)(l:List Int):Bool:=canB b l&&isOneB (trapOf b l)
def storiesL(b:WBook):List (List Int):=(allL b.T).filter (storyB b)
theorem sorted_ext {α:Type} {r:α→α→Prop}(hi: ∀a,¬r a a)(ht: ∀a b c,r a b→r b c→r a c): ∀ {l l':List α},l.Pairwise r→l'.Pairwise r→(∀x,x∈l↔x∈l')→l=l'
 |[],[],_,_,_=>rfl
 |[],y::l',_,_,h=>by have:=(h y).2 (by simp);simp at this
 |x::l,[],_,_,h=>by have:=(h x).1 (by simp);simp at this
 |x::l,y::l',h1,h2,h=>by
   rw[List.pairwise_cons]at h1 h2
   have e:x=y:=by
    rcases List.mem_cons.1 ((h x).1 (by simp))with e|hx
    ·exact e
    ·rcases List.mem_cons.1 ((h y).2 (by simp))with e|hy
     ·exact e.symm
     ·exact absurd (ht _ _ _ (h1.1 y hy) (h2.1 x hx)) (hi x)
   subst e
   refine congrArg (x:: ·) (sorted_ext hi ht h1.2 h2.2 fun z=>⟨fun hz=> ?_,fun hz=> ?_⟩)
   ·rcases List.mem_cons.1 ((h z).1 (List.mem_cons_of_mem _ hz))with e|hz'
    ·subst e;exact absurd (h1.1 z hz) (hi z)
    ·exact hz'
   ·rcases List.mem_cons.1 ((h z).2 (List.mem_cons_of_mem _ hz))with e|hz'
    ·subst e;exact absurd (h2.1 z hz) (hi z)
    ·exact hz'
end Go.Proofs.YtnglkclmplfnpaaGreat

/-
  Watch: what a book says: plain law.
-/
namespace Go.Proofs.YtnglkclmplfnpaaGreat
structure BookOk(b:WBook):Prop where
 trap:TrapOk b.trap
 drunk:0≤b.drunk∧b.drunk≤5
 run:0≤b.run∧b.run≤5
 sober:b.sober∈allL b.T
theorem BookOk.t6 {b:WBook}(h:BookOk b):b.T<6:=by
 have:=h.trap.tt
 show b.trap.times.toNat<6;omega
theorem BookOk.pos {b:WBook}(h:BookOk b):0<b.T:=by
 have:=h.trap.tt
 show 0<b.trap.times.toNat;omega
theorem one_mono {t o:CTrap}(h:Less t o)(ht:TrapOk t)(ho:TrapOk o)(h1:isOneB t=true):isOneB o=true:=by
 obtain⟨x,hx⟩:=(isOne_iff ht).1 h1
 exact(isOne_iff ho).2 ⟨x,h.sol hx⟩
theorem trapOf_ok {b:WBook}(h:BookOk b)(l:List Int):TrapOk (trapOf b l):=lessT_ok h.trap _
theorem story_mem {b:WBook} {l:List Int}:l∈storiesL b↔l∈allL b.T∧storyB b l=true:=by simp only[storiesL,List.mem_filter]
theorem story_can {b:WBook} {l:List Int}(h:storyB b l=true):canB b l=true∧isOneB (trapOf b l)=true:=by
 simpa only[storyB,Bool.and_eq_true]using h
theorem first_least {P:List Int→Bool}: ∀ {L:List (List Int)} {x:List Int},L.Pairwise (fun a b=>cmpL a b<0)→L.find? P=some x→x∈L∧P x=true∧ ∀y,y∈L→P y=true→ ¬cmpL y x<0
 |[],_,_,h=>by simp at h
 |a::L,x,hs,h=>by
   rw[List.pairwise_cons]at hs
   rw[List.find?_cons]at h
   cases hp:P a
   ·rw[hp]at h
    obtain⟨h1,h2,h3⟩:=first_least hs.2 h
    refine⟨List.mem_cons_of_mem _ h1,h2,fun y hy hpy=> ?_⟩
    rcases List.mem_cons.1 hy with rfl|hy
    ·rw[hp]at hpy;cases hpy
    ·exact h3 y hy hpy
   ·rw[hp]at h
    cases h
    refine⟨by simp,hp,fun y hy _=> ?_⟩
    rcases List.mem_cons.1 hy with rfl|hy
    ·exact cmpL_irr _
    ·intro hc;exact cmpL_irr _ (cmpL_trans _ _ _ hc (hs.1 y hy))
def wordAt(b:WBook)(n:Int):CWord:=b.trap.words.getD n.toNat default
def timesOf(b:WBook)(ws:List Int):List Int:=((List.range b.T).filter fun(n:Nat)=>ws.any fun w=>decide ((wordAt b w).time=(n:Int))).map fun(n:Nat)=>(n:Int)
def dropW(t:CTrap)(ws:List Int):CTrap:= {t with words:=(t.words.zipIdx.filter fun x=> !ws.contains (x.2:Int)).map (·.1)}
def falseB(b:WBook)(ws:List Int):Bool:=canB b (timesOf b ws)&&isOneB (dropW b.trap ws)
def fullW(b:WBook):List Int:=(List.range b.trap.words.length).map fun(n:Nat)=>(n:Int)
def blameL(b:WBook):List Int:=((allL b.trap.words.length).find? (falseB b)).getD (fullW b)
theorem dropW_words {t:CTrap} {ws:List Int} {w:CWord}:w∈(dropW t ws).words↔ ∃i:Nat,t.words[i]? =some w∧(i:Int)∉ws:=by
 simp only[dropW,List.mem_map,List.mem_filter,List.mem_zipIdx_iff_getElem?,Bool.not_eq_true',List.contains_eq_mem,decide_eq_false_iff_not]
 constructor
 ·rintro⟨x,⟨h1,h2⟩,rfl⟩;exact⟨x.2,h1,h2⟩
 ·rintro⟨i,h1,h2⟩;exact⟨(w,i),⟨h1,h2⟩,rfl⟩
theorem dropW_less(t:CTrap)(ws:List Int):Less t (dropW t ws):=⟨rfl,rfl,rfl,fun w hw=>by
 obtain⟨i,h,_⟩:=dropW_words.1 hw
 exact List.mem_of_getElem? h⟩
theorem dropW_ok {t:CTrap}(h:TrapOk t)(ws:List Int):TrapOk (dropW t ws):=(dropW_less t ws).ok h (by
 have h1:(dropW t ws).words.length≤t.words.length:=by
  simp only[dropW,List.length_map]
  exact Nat.le_trans (List.length_filter_le ..) (by simp)
 exact Nat.le_trans h1 h.words)
theorem timesOf_mem {b:WBook} {ws:List Int} {n:Int}:n∈timesOf b ws↔(0≤n∧n<b.T)∧ ∃w,w∈ws∧(wordAt b w).time=n:=by
 simp only[timesOf,List.mem_map,List.mem_filter,List.mem_range,List.any_eq_true,decide_eq_true_eq]
 constructor
 ·rintro⟨k,⟨h1,h2⟩,rfl⟩;exact⟨⟨by omega,by omega⟩,h2⟩
 ·rintro⟨⟨h1,h2⟩,w,h3,h4⟩
  exact⟨n.toNat,⟨by omega,w,h3,by omega⟩,by omega⟩
theorem filt_rising(n:Nat)(p:Nat→Bool):(((List.range n).filter p).map fun(n:Nat)=>(n:Int)).Pairwise (· < ·):=by
 rw[List.pairwise_map]
 exact((List.pairwise_lt_range).filter p).imp fun h=>by omega
theorem timesOf_all(b:WBook)(ws:List Int):timesOf b ws∈allL b.T:=allL_mem.2 ⟨filt_rising _ _,fun y hy=>by have:=(timesOf_mem.1 hy).1;omega⟩
theorem runAt_mono {l l':List Int}(h: ∀n,n∈l→n∈l'): ∀k,runAt l k≤runAt l' k
 |0=>by
   simp only[runAt,List.contains_eq_mem,decide_eq_true_eq]
   split
   ·rename_i e;rw[if_pos (h _ e)];exact Nat.le_refl _
   ·exact Nat.zero_le _
 |k+1=>by
   have ih:=runAt_mono h k
   simp only[runAt,List.contains_eq_mem,decide_eq_true_eq]
   split
   ·rename_i e;rw[if_pos (h _ e)];omega
   ·exact Nat.zero_le _
theorem sub_len {l l':List Int}(h1:l.Pairwise (· < ·))(h2:l'.Pairwise (· < ·))(h: ∀n,n∈l→n∈l'):l.length≤l'.length:=by
 have e:l=l'.filter fun n=>l.contains n:=sorted_ext (r:=fun a b:Int=>a<b) (fun a=>Int.lt_irrefl a) (fun a b c h h'=>Int.lt_trans h h') h1 (h2.filter _) fun x=>by
  simp only[List.mem_filter,List.contains_eq_mem,decide_eq_true_eq]
  exact⟨fun hx=>⟨h x hx,hx⟩,fun hx=>hx.2⟩
 rw[e];exact List.length_filter_le ..
theorem canB_mono {b:WBook} {l l':List Int}(hl:l∈allL b.T)(hl':l'∈allL b.T)(h: ∀n,n∈l→n∈l')(hc:canB b l'=true):canB b l=true:=by
 simp only[canB,Bool.and_eq_true,decide_eq_true_eq,List.all_eq_true]at hc⊢
 have:=sub_len (allL_mem.1 hl).1 (allL_mem.1 hl').1 h
 refine⟨by omega,fun n hn=> ?_⟩
 have h1:=hc.2 n (h n hn)
 have h2:=runAt_mono h n.toNat
 exact⟨by omega,h1.2⟩
theorem wordAt_mem {b:WBook} {n:Nat}(h:n<b.trap.words.length):wordAt b n∈b.trap.words:=by
 simp[wordAt,List.getD,h]
theorem trapOf_drop {b:WBook} {l ws:List Int}(h: ∀i:Nat,i<b.trap.words.length→(wordAt b i).time∈l→(i:Int)∈ws):Less (trapOf b l) (dropW b.trap ws):=⟨rfl,rfl,rfl,fun w hw=>by
 obtain⟨i,h1,h2⟩:=dropW_words.1 hw
 obtain⟨hi,e⟩:=List.getElem?_eq_some_iff.1 h1
 have e2:wordAt b i=w:=by simp[wordAt,List.getD,h1]
 simp only[trapOf,lessT,List.mem_filter,Bool.not_eq_true',List.contains_eq_mem,decide_eq_false_iff_not]
 refine⟨List.mem_of_getElem? h1,fun h3=>h2 (h i hi (by rw[e2];exact h3))⟩⟩
theorem story_false {b:WBook}(h:BookOk b) {l:List Int}(hl:l∈allL b.T)(hs:storyB b l=true): ∃ws,ws∈allL b.trap.words.length∧falseB b ws=true:=by
 obtain⟨h1,h2⟩:=story_can hs
 let ws:List Int:=((List.range b.trap.words.length).filter fun(i:Nat)=>l.contains (wordAt b i).time).map fun(n:Nat)=>(n:Int)
 have hm: ∀n:Int,n∈ws↔ ∃i:Nat,(i<b.trap.words.length∧(wordAt b i).time∈l)∧(i:Int)=n:=fun n=>by
  simp only[ws,List.mem_map,List.mem_filter,List.mem_range,List.contains_eq_mem,decide_eq_true_eq]
 refine⟨ws,allL_mem.2 ⟨filt_rising _ _,fun y hy=> ?_⟩,?_⟩
 ·obtain⟨i,⟨hi,_⟩,rfl⟩:=(hm y).1 hy;omega
 ·simp only[falseB,Bool.and_eq_true]
  refine⟨canB_mono (timesOf_all b ws) hl (fun n hn=> ?_) h1,one_mono (trapOf_drop fun i hi ht=>(hm i).2 ⟨i,⟨hi,ht⟩,rfl⟩) (trapOf_ok h l) (dropW_ok h.trap ws) h2⟩
  obtain⟨_,w,hw,e⟩:=timesOf_mem.1 hn
  obtain⟨i,⟨_,hi⟩,rfl⟩:=(hm w).1 hw
  rw[←e];exact hi
theorem false_story {b:WBook}(h:BookOk b) {ws:List Int}(hf:falseB b ws=true):storyB b (timesOf b ws)=true:=by
 simp only[falseB,Bool.and_eq_true]at hf
 simp only[storyB,Bool.and_eq_true]
 refine⟨hf.1,one_mono (t:=dropW b.trap ws) ⟨rfl,rfl,rfl,fun w hw=> ?_⟩ (dropW_ok h.trap ws) (trapOf_ok h _) hf.2⟩
 simp only[trapOf,lessT,List.mem_filter,Bool.not_eq_true',List.contains_eq_mem,decide_eq_false_iff_not]at hw
 obtain⟨hw1,hw2⟩:=hw
 obtain⟨i,hi⟩:=List.mem_iff_getElem?.1 hw1
 refine dropW_words.2 ⟨i,hi,fun hm=>hw2 (timesOf_mem.2 ⟨?_,(i:Int),hm,by simp[wordAt,List.getD,hi]⟩)⟩
 have:=wordOk_iff.1 (h.trap.word w hw1)
 have:b.T=b.trap.times.toNat:=rfl
 omega
theorem blame_spec {b:WBook}(h:BookOk b)(hn:storiesL b≠[]):blameL b∈allL b.trap.words.length∧falseB b (blameL b)=true∧ ∀ws,ws∈allL b.trap.words.length→falseB b ws=true→ ¬cmpL ws (blameL b)<0:=by
 obtain⟨l,hl⟩:=List.exists_mem_of_ne_nil _ hn
 obtain⟨h1,h2⟩:=story_mem.1 hl
 obtain⟨ws,h3,h4⟩:=story_false h h1 h2
 cases hf:(allL b.trap.words.length).find? (falseB b)with
 |none=>exact absurd h4 (by simpa using List.find?_eq_none.1 hf ws h3)
 |some x=>
   have e:blameL b=x:=by unfold blameL;rw[hf];rfl
   rw[e]
   exact first_least (allL_sorted _) hf
end Go.Proofs.YtnglkclmplfnpaaGreat

/-
  Watch: spans over all stories; more drink, one more word, a word less: plain law.
-/
namespace Go.Proofs.YtnglkclmplfnpaaGreat
def hullS(a b:CSp):CSp:=⟨min a.lo b.lo,max a.hi b.hi⟩
def hullF(f:List Int→CSp):List (List Int)→CSp
 |[]=>⟨0,0⟩
 |x::L=>(x::L).foldl (fun a l=>hullS a (f l)) (f x)
structure HullOf(f:List Int→CSp)(L:List (List Int))(s:CSp):Prop where
 lo: ∃l,l∈L∧s.lo=(f l).lo
 hi: ∃l,l∈L∧s.hi=(f l).hi
 all: ∀l,l∈L→s.lo≤(f l).lo∧(f l).hi≤s.hi
theorem hull_fold(f:List Int→CSp): ∀(L P:List (List Int)) (a:CSp),HullOf f P a→HullOf f (P ++L) (L.foldl (fun a l=>hullS a (f l)) a)
 |[],P,a,h=>by simpa using h
 |x::L,P,a,h=>by
   have e:P ++x::L=(P ++[x]) ++L:=by simp
   rw[e,List.foldl_cons]
   refine hull_fold f L (P ++[x]) _ ⟨?_,?_,fun l hl=> ?_⟩
   ·obtain⟨l,h1,h2⟩:=h.lo
    by_cases c:a.lo≤(f x).lo
    ·exact⟨l,by simp[h1],by simp only[hullS];omega⟩
    ·exact⟨x,by simp,by simp only[hullS];omega⟩
   ·obtain⟨l,h1,h2⟩:=h.hi
    by_cases c:(f x).hi≤a.hi
    ·exact⟨l,by simp[h1],by simp only[hullS];omega⟩
    ·exact⟨x,by simp,by simp only[hullS];omega⟩
   ·simp only[hullS]
    rcases List.mem_append.1 hl with hl|hl
    ·have:=h.all l hl;omega
    ·rw[List.mem_singleton]at hl;subst hl;omega
theorem hullF_spec(f:List Int→CSp) {L:List (List Int)}(h:L≠[]):HullOf f L (hullF f L):=by
 match L,h with
 |x::L,_=>
   have h0:HullOf f [x] (f x):=⟨⟨x,by simp,rfl⟩,⟨x,by simp,rfl⟩,fun l hl=>by rw[List.mem_singleton]at hl;subst hl;omega⟩
   have:=hull_fold f (x::L) [x] (f x) h0
   refine⟨?_,?_,fun l hl=>this.all l (List.mem_append_right _ hl)⟩
   ·obtain⟨l,h1,h2⟩:=this.lo
    refine⟨l,?_,h2⟩
    rcases List.mem_append.1 h1 with h1|h1
    ·rw[List.mem_singleton]at h1;subst h1;simp
    ·exact h1
   ·obtain⟨l,h1,h2⟩:=this.hi
    refine⟨l,?_,h2⟩
    rcases List.mem_append.1 h1 with h1|h1
    ·rw[List.mem_singleton]at h1;subst h1;simp
    ·exact h1
def spanW(b:WBook)(i c j d:Nat):CSp:=hullF (fun l=>difR (trapOf b l) i c j d) (storiesL b)
theorem story_dif {b:WBook}(h:BookOk b) {l:List Int}(hl:l∈storiesL b) {i c j d:Nat}(hi:i<b.T)(hc:c≤b.trap.C)(hj:j<b.T)(hd:d≤b.trap.C):DifOf (trapOf b l) i c j d (difR (trapOf b l) i c j d):=
 difR_spec (trapOf_ok h l) ((isOne_iff (trapOf_ok h l)).1 (story_can (story_mem.1 hl).2).2) hi hc hj hd
theorem DifOf.le {t i c j d s}(h:DifOf t i c j d s):s.lo≤s.hi:=by
 obtain⟨x,hx,e⟩:=h.lo
 have:=h.all x hx;omega
def inS(a b:CSp):Bool:=decide (b.lo≤a.lo)&&(decide (a.lo≤a.hi)&&decide (a.hi≤b.hi))
structure Wide(b o:WBook):Prop where
 c:o.trap.chambers=b.trap.chambers
 t:o.trap.times=b.trap.times
 story: ∀l,l∈storiesL b→l∈storiesL o
 less: ∀l,l∈storiesL b→Less (trapOf b l) (trapOf o l)
theorem Wide.span {b o:WBook}(h:Wide b o)(hb:BookOk b)(ho:BookOk o)(hn:storiesL b≠[]) {i c j d:Nat}(hi:i<b.T)(hc:c≤b.trap.C)(hj:j<b.T)(hd:d≤b.trap.C):inS (spanW b i c j d) (spanW o i c j d)=true:=by
 have eT:o.T=b.T:=by show o.trap.times.toNat=b.trap.times.toNat;rw[h.t]
 have eC:o.trap.C=b.trap.C:=by show o.trap.chambers.toNat=b.trap.chambers.toNat;rw[h.c]
 have hn':storiesL o≠[]:=by
  obtain⟨l,hl⟩:=List.exists_mem_of_ne_nil _ hn
  exact List.ne_nil_of_mem (h.story l hl)
 have hb':=hullF_spec (fun l=>difR (trapOf b l) i c j d) hn
 have ho':=hullF_spec (fun l=>difR (trapOf o l) i c j d) hn'
 have key: ∀l,l∈storiesL b→(difR (trapOf o l) i c j d).lo≤(difR (trapOf b l) i c j d).lo∧(difR (trapOf b l) i c j d).lo≤(difR (trapOf b l) i c j d).hi∧(difR (trapOf b l) i c j d).hi≤(difR (trapOf o l) i c j d).hi:=fun l hl=>
  (h.less l hl).dif (story_dif hb hl hi hc hj hd) (story_dif ho (h.story l hl) (by rwa [eT]) (by rwa [eC]) (by rwa [eT]) (by rwa [eC]))
 obtain⟨l1,a1,b1⟩:=hb'.lo
 obtain⟨l2,a2,b2⟩:=hb'.hi
 have c1:=key l1 a1
 have c2:=key l2 a2
 have d1:=ho'.all l1 (h.story l1 a1)
 have d2:=ho'.all l2 (h.story l2 a2)
 have e1:=hb'.all l1 a1
 unfold spanW
 simp only[inS,Bool.and_eq_true,decide_eq_true_eq]
 omega
def upW(n:Nat)(i:Nat):Nat:=if i<n then i else i+1
structure More(b o:WBook):Prop where
 trap:o.trap=b.trap
 drunk:b.drunk≤o.drunk
 run:b.run≤o.run
 sober: ∀n,n∈o.sober→n∈b.sober
theorem More.can {b o:WBook}(h:More b o) {l:List Int}(hc:canB b l=true):canB o l=true:=by
 simp only[canB,Bool.and_eq_true,decide_eq_true_eq,List.all_eq_true,Bool.not_eq_true',List.contains_eq_mem,decide_eq_false_iff_not]at hc⊢
 have:=h.drunk
 have:=h.run
 refine⟨by omega,fun n hn=> ?_⟩
 have:=hc.2 n hn
 exact⟨by omega,fun hm=>this.2 (h.sober n hm)⟩
theorem More.story {b o:WBook}(h:More b o) {l:List Int}(hs:storyB b l=true):storyB o l=true:=by
 obtain⟨h1,h2⟩:=story_can hs
 simp only[storyB,Bool.and_eq_true]
 refine⟨h.can h1,?_⟩
 unfold trapOf at h2⊢
 rw[h.trap];exact h2
theorem More.wide {b o:WBook}(h:More b o):Wide b o where
 c:=by rw[h.trap]
 t:=by rw[h.trap]
 story l hl:=by
  obtain⟨h1,h2⟩:=story_mem.1 hl
  refine story_mem.2 ⟨?_,h.story h2⟩
  show l∈allL o.trap.T
  rw[h.trap];exact h1
 less l _:=by
  unfold trapOf;rw[h.trap]
  exact⟨rfl,rfl,rfl,fun _ h=>h⟩
theorem cmp_len {a b:List Int}(h: ¬cmpL a b<0):b.length≤a.length:=by
 rw[cmpL_lt]at h;omega
theorem More.false {b o:WBook}(h:More b o)(hb:BookOk b)(ho:BookOk o)(hn:storiesL b≠[])(hn':storiesL o≠[]):(blameL o).length≤(blameL b).length:=by
 obtain⟨h1,h2,_⟩:=blame_spec hb hn
 obtain⟨_,_,h3⟩:=blame_spec ho hn'
 have ew: ∀n,wordAt o n=wordAt b n:=fun n=>by unfold wordAt;rw[h.trap]
 have et:timesOf o (blameL b)=timesOf b (blameL b):=by
  unfold timesOf
  rw[show o.T=b.T by show o.trap.T=b.trap.T;rw[h.trap]]
  simp only[ew]
 refine cmp_len (h3 _ (by rw[h.trap];exact h1) ?_)
 simp only[falseB,Bool.and_eq_true]at h2⊢
 rw[et,h.trap]
 exact⟨h.can h2.1,h2.2⟩
end Go.Proofs.YtnglkclmplfnpaaGreat

/-
  Watch: one more word, a word less, the answer: plain law.
-/
namespace Go.Proofs.YtnglkclmplfnpaaGreat
structure Told(b o:WBook)(w:CWord):Prop where
 trap:o.trap=toldT b.trap w
 drunk:o.drunk=b.drunk
 run:o.run=b.run
 sober:o.sober=b.sober
theorem Told.can {b o:WBook} {w}(h:Told b o w)(l:List Int):canB o l=canB b l:=by unfold canB;rw[h.drunk,h.run,h.sober]
theorem Told.t {b o:WBook} {w}(h:Told b o w):o.T=b.T:=by show o.trap.times.toNat=b.trap.times.toNat;rw[h.trap];rfl
theorem Told.less {b o:WBook} {w}(h:Told b o w)(l:List Int):Less (trapOf o l) (trapOf b l):=by
 unfold trapOf;rw[h.trap]
 refine⟨rfl,rfl,rfl,fun w' hw=> ?_⟩
 simp only[lessT,toldT,List.mem_filter,List.mem_append]at hw⊢
 exact⟨.inl hw.1,hw.2⟩
theorem Told.wide {b o:WBook} {w}(h:Told b o w)(hb:BookOk b)(ho:BookOk o):Wide o b where
 c:=by rw[h.trap];rfl
 t:=by rw[h.trap];rfl
 story l hl:=by
  obtain⟨h1,h2⟩:=story_mem.1 hl
  obtain⟨h3,h4⟩:=story_can h2
  rw[h.t]at h1
  refine story_mem.2 ⟨h1,?_⟩
  simp only[storyB,Bool.and_eq_true]
  exact⟨by rw[←h.can];exact h3,one_mono (h.less l) (trapOf_ok ho l) (trapOf_ok hb l) h4⟩
 less l _:=h.less l
theorem told_at {b o:WBook} {w}(h:Told b o w) {i:Nat}(hi:i<b.trap.words.length):wordAt o i=wordAt b i:=by
 simp only[wordAt,List.getD,h.trap,toldT,Int.toNat_natCast]
 rw[List.getElem?_append_left hi]
theorem Told.false {b o:WBook} {w}(h:Told b o w)(hb:BookOk b)(ho:BookOk o)(hn:storiesL b≠[])(hn':storiesL o≠[]):(blameL b).length≤(blameL o).length:=by
 obtain⟨h1,h2,_⟩:=blame_spec ho hn'
 obtain⟨_,_,h3⟩:=blame_spec hb hn
 obtain⟨a1,a2⟩:=allL_mem.1 h1
 generalize blameL o=ws at*
 have hm: ∀n,n∈ws.filter (fun n=>decide (n<(b.trap.words.length:Int)))↔n∈ws∧n<(b.trap.words.length:Int):=fun n=>by simp only[List.mem_filter,decide_eq_true_eq]
 have hall:ws.filter (fun n=>decide (n<(b.trap.words.length:Int)))∈allL b.trap.words.length:=allL_mem.2 ⟨a1.filter _,fun y hy=>by have:=(hm y).1 hy;have:=a2 y this.1;omega⟩
 have hlen:(ws.filter (fun n=>decide (n<(b.trap.words.length:Int)))).length≤ws.length:=List.length_filter_le ..
 refine Nat.le_trans (cmp_len (h3 _ hall ?_)) hlen
 generalize ws.filter (fun n=>decide (n<(b.trap.words.length:Int)))=vs at*
 simp only[falseB,Bool.and_eq_true]at h2⊢
 have ht:=timesOf_all o ws
 rw[h.t]at ht
 refine⟨canB_mono (timesOf_all b vs) ht (fun n hn=> ?_) (by rw[←h.can];exact h2.1),one_mono (t:=dropW o.trap ws) ⟨by rw[h.trap];rfl,by rw[h.trap];rfl,by rw[h.trap];rfl,fun w' hw=> ?_⟩ (dropW_ok ho.trap ws) (dropW_ok hb.trap vs) h2.2⟩
 ·obtain⟨b1,v,hv,e⟩:=timesOf_mem.1 hn
  obtain⟨c1,c2⟩:=(hm v).1 hv
  have c3:=a2 v c1
  obtain⟨i,rfl⟩: ∃i:Nat,v=i:=⟨v.toNat,by omega⟩
  exact timesOf_mem.2 ⟨by rw[h.t];exact b1,(i:Int),c1,by rw[told_at h (by omega)];exact e⟩
 ·obtain⟨i,e1,e2⟩:=dropW_words.1 hw
  obtain⟨hi,_⟩:=List.getElem?_eq_some_iff.1 e1
  refine dropW_words.2 ⟨i,?_,fun hv=>e2 ((hm i).2 ⟨hv,by omega⟩)⟩
  rw[h.trap];simp only[toldT]
  rw[List.getElem?_append_left hi];exact e1
def judgeW(b:WBook)(l:List Int)(w:CWord):Int:=judgeS (difR (trapOf b l) w.time.toNat w.chamber.toNat w.time.toNat (w.chamber.toNat+1)) w
def holdsX(w:CWord)(x:Nat→Nat→Int):Prop:=w.lo≤x w.time.toNat w.chamber.toNat-x w.time.toNat (w.chamber.toNat+1)∧x w.time.toNat w.chamber.toNat-x w.time.toNat (w.chamber.toNat+1)≤w.hi
theorem judge_spec {b:WBook}(h:BookOk b) {l:List Int}(hl:l∈storiesL b) {w:CWord}(hw:wordOk b.trap w=true):
 (judgeW b l w=2↔ ∀x,Sol (trapOf b l) x→ ¬holdsX w x)∧(judgeW b l w=1↔ ∀x,Sol (trapOf b l) x→holdsX w x)∧(judgeW b l w=1∨judgeW b l w=2∨judgeW b l w=3):=by
 have hk:=wordOk_iff.1 hw
 have e1:b.T=b.trap.times.toNat:=rfl
 have e2:b.trap.C=b.trap.chambers.toNat:=rfl
 have hs:=story_dif h hl (i:=w.time.toNat) (c:=w.chamber.toNat) (j:=w.time.toNat) (d:=w.chamber.toNat+1) (by omega) (by omega) (by omega) (by omega)
 have hle:=hs.le
 have hmid:=fun v h1 h2=>hs.mid (trapOf_ok h l) (show w.time.toNat<b.T by omega) (show w.chamber.toNat≤b.trap.C by omega) (show w.time.toNat<b.T by omega) (show w.chamber.toNat+1≤b.trap.C by omega) (v:=v) h1 h2
 unfold judgeW holdsX
 generalize difR (trapOf b l) w.time.toNat w.chamber.toNat w.time.toNat (w.chamber.toNat+1)=s at*
 unfold judgeS
 refine⟨⟨fun hj x hx hh=> ?_,fun hall=> ?_⟩,⟨fun hj x hx=> ?_,fun hall=> ?_⟩,by split<;>(try split)<;>omega⟩
 ·have:=hs.all x hx
  split at hj
  ·omega
  ·split at hj<;>omega
 ·rw[if_neg,if_pos]
  ·refine Classical.byContradiction fun hc=> ?_
   obtain⟨x,hx,e⟩:=hmid (max s.lo w.lo) (by omega) (by omega)
   exact hall x hx (by omega)
  ·rintro⟨k1,k2⟩
   obtain⟨x,hx,e⟩:=hs.lo
   exact hall x hx (by omega)
 ·have:=hs.all x hx
  split at hj
  ·omega
  ·split at hj<;>omega
 ·obtain⟨x,hx,e⟩:=hs.lo
  obtain⟨y,hy,e'⟩:=hs.hi
  have a1:=hall x hx
  have a2:=hall y hy
  rw[if_pos (by omega)]
def liesV(b:WBook)(w:CWord):Int:=if (storiesL b).all (fun l=>decide (judgeW b l w=2))=true then 1 else if (storiesL b).all (fun l=>decide (judgeW b l w=1))=true then 2 else 3
theorem lies_1 {b w}:liesV b w=1↔ ∀l,l∈storiesL b→judgeW b l w=2:=by
 unfold liesV
 by_cases h:(storiesL b).all (fun l=>decide (judgeW b l w=2))=true
 ·rw[if_pos h];simpa using h
 ·rw[if_neg h]
  constructor
  ·intro e;split at e<;>omega
  ·intro e;exact absurd (by simpa using e) h
theorem lies_2 {b w}(hn:storiesL b≠[]):liesV b w=2↔ ∀l,l∈storiesL b→judgeW b l w=1:=by
 obtain⟨l0,hl0⟩:=List.exists_mem_of_ne_nil _ hn
 unfold liesV
 by_cases h:(storiesL b).all (fun l=>decide (judgeW b l w=2))=true
 ·rw[if_pos h]
  have h': ∀l,l∈storiesL b→judgeW b l w=2:=by simpa using h
  constructor
  ·intro e;omega
  ·intro e;have:=e l0 hl0;have:=h' l0 hl0;omega
 ·rw[if_neg h]
  by_cases h2:(storiesL b).all (fun l=>decide (judgeW b l w=1))=true
  ·rw[if_pos h2];simpa using h2
  ·rw[if_neg h2]
   constructor
   ·intro e;omega
   ·intro e;exact absurd (by simpa using e) h2
def withoutT(t:CTrap)(n:Nat):CTrap:= {t with words:=t.words.take n ++t.words.drop (n+1)}
theorem without_get {t:CTrap} {n i:Nat}(hn:n<t.words.length):(withoutT t n).words[i]? =t.words[upW n i]? :=by
 simp only[withoutT,upW,List.getElem?_append,List.length_take,List.getElem?_take,List.getElem?_drop]
 by_cases h:i<n
 ·rw[if_pos (by omega),if_pos h,if_pos h]
 ·rw[if_neg (by omega),if_neg h];congr 1;omega
theorem without_less {t:CTrap} {n:Nat}(hn:n<t.words.length):Less t (withoutT t n):=⟨rfl,rfl,rfl,fun w hw=>by
 obtain⟨i,hi⟩:=List.mem_iff_getElem?.1 hw
 rw[without_get hn]at hi
 exact List.mem_of_getElem? hi⟩
structure Gone(b o:WBook)(n:Nat):Prop where
 lt:n<b.trap.words.length
 trap:o.trap=withoutT b.trap n
 drunk:o.drunk=b.drunk
 run:o.run=b.run
 sober:o.sober=b.sober
theorem Gone.ok {b o n}(h:Gone b o n)(hb:BookOk b):BookOk o where
 trap:=by rw[h.trap];exact(without_less h.lt).ok hb.trap (by have:=hb.trap.words;simp[withoutT];omega)
 drunk:=by rw[h.drunk];exact hb.drunk
 run:=by rw[h.run];exact hb.run
 sober:=by rw[h.sober];show b.sober∈allL o.trap.T;rw[h.trap];exact hb.sober
theorem Gone.can {b o n}(h:Gone b o n)(l:List Int):canB o l=canB b l:=by unfold canB;rw[h.drunk,h.run,h.sober]
theorem Gone.t {b o n}(h:Gone b o n):o.T=b.T:=by show o.trap.times.toNat=b.trap.times.toNat;rw[h.trap];rfl
theorem Gone.story {b o n}(h:Gone b o n)(hb:BookOk b) {l:List Int}(hs:storyB b l=true):storyB o l=true:=by
 obtain⟨h1,h2⟩:=story_can hs
 simp only[storyB,Bool.and_eq_true]
 refine⟨by rw[h.can];exact h1,one_mono (t:=trapOf b l) ⟨by rw[trapOf,h.trap];rfl,by rw[trapOf,h.trap];rfl,by rw[trapOf,h.trap];rfl,fun w hw=> ?_⟩ (trapOf_ok hb l) (trapOf_ok (h.ok hb) l) h2⟩
 simp only[trapOf,lessT,List.mem_filter]at hw⊢
 rw[h.trap]at hw
 exact⟨(without_less h.lt).words w hw.1,hw.2⟩
def downW(n:Nat)(x:Int):Int:=if x<n then x else x-1
theorem filter_ne_len {n:Int}: ∀ {l:List Int},l.Pairwise (· < ·)→n∈l→(l.filter fun x=>decide (x≠n)).length+1=l.length
 |[],_,h=>by simp at h
 |x::l,hp,h=>by
   rw[List.pairwise_cons]at hp
   by_cases e:x=n
   ·subst e
    have:l.filter (fun y=>decide (y≠x))=l:=List.filter_eq_self.2 fun y hy=>by have:=hp.1 y hy;simp;omega
    rw[List.filter_cons,if_neg (by simp),this,List.length_cons]
   ·have hm:n∈l:=by
     rcases List.mem_cons.1 h with h|h
     ·exact absurd h.symm e
     ·exact h
    have:=filter_ne_len hp.2 hm
    rw[List.filter_cons,if_pos (by simp[e]),List.length_cons,List.length_cons,this]
theorem Gone.false {b o n}(h:Gone b o n)(hb:BookOk b)(hn:storiesL b≠[])(hl:liesV b (wordAt b n)=1):storiesL o≠[]∧(blameL o).length<(blameL b).length:=by
 have ho:=h.ok hb
 have hn':storiesL o≠[]:=by
  obtain⟨l,hm⟩:=List.exists_mem_of_ne_nil _ hn
  obtain⟨h1,h2⟩:=story_mem.1 hm
  exact List.ne_nil_of_mem (story_mem.2 ⟨by rw[h.t];exact h1,h.story hb h2⟩)
 refine⟨hn',?_⟩
 obtain⟨h1,h2,_⟩:=blame_spec hb hn
 obtain⟨_,_,h3⟩:=blame_spec ho hn'
 obtain⟨a1,a2⟩:=allL_mem.1 h1
 have hst:=false_story hb h2
 generalize blameL b=ws at*
 have hmem:(n:Int)∈ws:=by
  refine Classical.byContradiction fun hno=> ?_
  have hsm:timesOf b ws∈storiesL b:=story_mem.2 ⟨timesOf_all b ws,hst⟩
  have hj:=(judge_spec hb hsm (hb.trap.word _ (wordAt_mem h.lt))).1.1 (lies_1.1 hl _ hsm)
  simp only[falseB,Bool.and_eq_true]at h2
  obtain⟨x,hx⟩:=(isOne_iff (dropW_ok hb.trap ws)).1 h2.2
  have hless:Less (dropW b.trap ws) (trapOf b (timesOf b ws)):=⟨rfl,rfl,rfl,fun w hw=>by
   simp only[trapOf,lessT,List.mem_filter,Bool.not_eq_true',List.contains_eq_mem,decide_eq_false_iff_not]at hw
   obtain⟨hw1,hw2⟩:=hw
   obtain⟨i,hi⟩:=List.mem_iff_getElem?.1 hw1
   refine dropW_words.2 ⟨i,hi,fun hm=>hw2 (timesOf_mem.2 ⟨?_,(i:Int),hm,by simp[wordAt,List.getD,hi]⟩)⟩
   have:=wordOk_iff.1 (hb.trap.word w hw1)
   have:b.T=b.trap.times.toNat:=rfl
   omega⟩
  refine hj x (hless.sol hx) (hx.word _ (dropW_words.2 ⟨n,?_,hno⟩))
  simp[wordAt,List.getD,h.lt]
 have hd: ∀x:Int,x∈(ws.filter fun x=>decide (x≠(n:Int))).map (downW n)↔ ∃y,(y∈ws∧y≠(n:Int))∧downW n y=x:=fun x=>by
  simp only[List.mem_map,List.mem_filter,decide_eq_true_eq]
 have hlen:((ws.filter fun x=>decide (x≠(n:Int))).map (downW n)).length+1=ws.length:=by rw[List.length_map];exact filter_ne_len a1 hmem
 have hwl:o.trap.words.length+1=b.trap.words.length:=by have:=h.lt;rw[h.trap];simp[withoutT];omega
 have hall:(ws.filter fun x=>decide (x≠(n:Int))).map (downW n)∈allL o.trap.words.length:=allL_mem.2 ⟨by
  rw[List.pairwise_map]
  refine List.Pairwise.imp_of_mem ?_ (a1.filter _)
  intro x y hx hy hxy
  simp only[List.mem_filter,decide_eq_true_eq]at hx hy
  unfold downW;split<;>split<;>omega,fun y hy=>by
  obtain⟨z,⟨k1,k2⟩,rfl⟩:=(hd y).1 hy
  have:=a2 z k1
  have:=h.lt
  unfold downW;split<;>omega⟩
 have:=cmp_len (h3 _ hall ?_)
 ·omega
 clear h3
 generalize (ws.filter fun x=>decide (x≠(n:Int))).map (downW n)=vs at*
 simp only[falseB,Bool.and_eq_true]at h2⊢
 have wat: ∀i:Nat,wordAt o i=wordAt b (upW n i:Nat):=fun i=>by
  unfold wordAt
  simp only[List.getD,Int.toNat_natCast,h.trap,without_get h.lt]
 have hup: ∀i:Nat,(i:Int)∈vs↔((upW n i:Nat):Int)∈ws:=fun i=>by
  rw[hd]
  constructor
  ·rintro⟨y,⟨k1,k2⟩,e⟩
   have:=a2 y k1
   have e2:((upW n i:Nat):Int)=y:=by unfold downW at e;unfold upW;split at e<;>split<;>omega
   rw[e2];exact k1
  ·intro hm
   refine⟨_,⟨hm,?_⟩,?_⟩
   ·unfold upW;split<;>omega
   ·unfold downW upW;split<;>split<;>omega
 have ht:=timesOf_all o vs
 rw[h.t]at ht
 refine⟨(h.can _).trans (canB_mono ht (timesOf_all b ws) (fun m hm=> ?_) h2.1),one_mono (t:=dropW b.trap ws) ⟨by rw[h.trap];rfl,by rw[h.trap];rfl,by rw[h.trap];rfl,fun w hw=> ?_⟩ (dropW_ok hb.trap ws) (dropW_ok ho.trap vs) h2.2⟩
 ·obtain⟨b1,v,hv,e⟩:=timesOf_mem.1 hm
  obtain⟨q1,q2⟩:=allL_mem.1 hall
  have:=q2 v hv
  obtain⟨i,rfl⟩: ∃i:Nat,v=i:=⟨v.toNat,by omega⟩
  rw[wat]at e
  exact timesOf_mem.2 ⟨by rw[←h.t];exact b1,((upW n i:Nat):Int),(hup i).1 hv,e⟩
 ·obtain⟨i,e1,e2⟩:=dropW_words.1 hw
  rw[h.trap,without_get h.lt]at e1
  exact dropW_words.2 ⟨upW n i,e1,fun hm=>e2 ((hup i).2 hm)⟩
structure Sobered(b o:WBook)(n:Int):Prop where
 trap:o.trap=b.trap
 drunk:o.drunk=b.drunk
 run:o.run=b.run
 sober: ∀k,k∈o.sober↔k=n∨k∈b.sober
theorem Sobered.stories {b o n}(h:Sobered b o n):storiesL o=(storiesL b).filter fun l=> !l.contains n:=by
 unfold storiesL
 rw[show o.T=b.T by show o.trap.T=b.trap.T;rw[h.trap],List.filter_filter]
 refine List.filter_congr fun l _=> ?_
 rw[Bool.eq_iff_iff]
 have et:trapOf o l=trapOf b l:=by unfold trapOf;rw[h.trap]
 simp only[storyB,canB,et,h.drunk,h.run,Bool.and_eq_true,List.all_eq_true,Bool.not_eq_true',List.contains_eq_mem,decide_eq_false_iff_not,decide_eq_true_eq,h.sober]
 constructor
 ·rintro⟨⟨h1,h2⟩,h3⟩
  exact⟨fun hm=>(h2 n hm).2 (.inl rfl),⟨h1,fun k hk=>⟨(h2 k hk).1,fun hm=>(h2 k hk).2 (.inr hm)⟩⟩,h3⟩
 ·rintro⟨h0,⟨h1,h2⟩,h3⟩
  refine⟨⟨h1,fun k hk=>⟨(h2 k hk).1,?_⟩⟩,h3⟩
  rintro(rfl|hm)
  ·exact h0 hk
  ·exact(h2 k hk).2 hm
end Go.Proofs.YtnglkclmplfnpaaGreat

/-
  Watch: about which time to ask; truths as numbers: plain law.
-/
namespace Go.Proofs.YtnglkclmplfnpaaGreat
def behindL(r:List Int)(c:Nat):Int:=(r.drop c).sum
def rowsX(L:List (List Int))(i c:Nat):Int:=behindL (L.getD i []) c
theorem behind_step {r:List Int} {c:Nat}(h:c<r.length):behindL r c=r.getD c 0+behindL r (c+1):=by
 unfold behindL
 rw[List.drop_eq_getElem_cons h,List.sum_cons]
 simp[List.getD,h]
theorem behind_end {r:List Int} {c:Nat}(h:r.length≤c):behindL r c=0:=by
 unfold behindL;rw[List.drop_of_length_le h];rfl
theorem rowsX_at {L:List (List Int)} {i c:Nat}(h:c<(L.getD i []).length):rowsX L i c-rowsX L i (c+1)=(L.getD i []).getD c 0:=by
 have:=behind_step h
 unfold rowsX;omega
theorem tale_fish {b:WBook}(h:BookOk b) {l:List Int}(hl:l∈storiesL b) {x}(hx:Sol (trapOf b l) x) {i c j d:Nat}(hi:i<b.T)(hc:c≤b.trap.C)(hj:j<b.T)(hd:d≤b.trap.C):(spanW b i c j d).lo≤x i c-x j d∧x i c-x j d≤(spanW b i c j d).hi:=by
 have hn:storiesL b≠[]:=List.ne_nil_of_mem hl
 have h1:=(hullF_spec (fun l=>difR (trapOf b l) i c j d) hn).all l hl
 have h2:=(story_dif h hl hi hc hj hd).all x hx
 unfold spanW
 omega
end Go.Proofs.YtnglkclmplfnpaaGreat

/-
  Counts: settle: its numbers stay small: plain law.
-/
namespace Go.Proofs.YtnglkclmplfnpaaGreat
def BigM(T C:Nat)(M:Int)(S:CMat):Prop:= ∀i c,i<T→c≤C→(atS S i c).lo≤M∧ -M≤(atS S i c).hi
theorem BigM.weaken {T C M M' S}(h:BigM T C M S)(hM:M≤M'):BigM T C M' S:=fun i c hi hc=>by have:=h i c hi hc;omega
theorem BigM.dif {T C M S k}(h:BigM T C M S)(hS:Shape T C S)(hk:Dif.Ok T C k):BigM T C (M+40) (difS S k):=fun i c hi hc=>by
 have ha:=h k.i k.c hk.i (Nat.le_of_lt hk.c)
 have hb:=h k.j k.d hk.j hk.d
 have h0:=h i c hi hc
 have klo:=hk.lo
 have khi:=hk.hi
 rw[difS_at hS hk hi]
 generalize atS S k.i k.c=a at*
 generalize atS S k.j k.d=b at*
 generalize atS S i c=x at*
 split
 ·simp only[difB,cutS];omega
 ·split
  ·simp only[difA,cutS];omega
  ·omega
structure InvS(T C:Nat)(M:Int)(S:CMat):Prop where
 shape:Shape T C S
 near:Near T C S
 big:BigM T C M S
theorem InvS.weaken {T C M M' S}(h:InvS T C M S)(hM:M≤M'):InvS T C M' S:=⟨h.shape,h.near,h.big.weaken hM⟩
theorem InvS.dif {T C M S k}(h:InvS T C M S)(hk:Dif.Ok T C k):InvS T C (M+40) (difS S k):=⟨difS_shape h.shape hk,h.near.dif h.shape hk,h.big.dif h.shape hk⟩
theorem InvS.run {T C:Nat}: ∀(l:List Item) (M:Int) (a:PS),(∀k,k∈l→Item.Ok T C k)→InvS T C M a.S→InvS T C (M+40*(l.length:Int)) (runI l a).1.S
 |[],M,a,_,h=>by simpa [runI]using h
 | .chk i c::l,M,a,hok,h=>by
   have ih:=InvS.run l M a (fun k hk=>hok k (List.mem_cons_of_mem _ hk)) h
   have e:runI (.chk i c::l) a=if (stepI a (.chk i c)).2=true then runI l a else(a,false):=rfl
   rw[e,List.length_cons]
   by_cases hx:(stepI a (.chk i c)).2=true
   ·rw[if_pos hx];exact ih.weaken (by omega)
   ·rw[if_neg hx];exact h.weaken (by omega)
 | .dif k::l,M,a,hok,h=>by
   have hk:Dif.Ok T C k:=hok _ (List.mem_cons_self ..)
   have ih:=InvS.run l (M+40) ⟨difS a.S k,difC a.S k||a.ch⟩ (fun k hk=>hok k (List.mem_cons_of_mem _ hk)) (h.dif hk)
   simp only[runI,stepI,List.length_cons,if_true]
   exact ih.weaken (by omega)
theorem big_of_chk {T C S}(hC:0<C)(hN:Near T C S)(h: ∀i c,i<T→c<C→(atS S i c).lo≤(atS S i c).hi):BigM T C 40 S:=fun i c hi hc=>by
 by_cases e:c<C
 ·have h1:=h i c hi e
  have h2:=hN.lo i c hi hc
  have h3:=hN.hi i c hi hc
  omega
 ·obtain rfl:c=C:=by omega
  obtain⟨q,rfl⟩: ∃q,c=q+1:=⟨c-1,by omega⟩
  have h1:=hN.lastlo i q hi rfl
  have h2:=hN.lasthi i q hi rfl
  have h3:=h i q hi (by omega)
  have h4:=hN.lo i q hi (by omega)
  have h5:=hN.hi i q hi (by omega)
  omega
theorem itemsC_length {t:CTrap} {i c:Nat}:((itemsC t i c).length:Int)≤3:=by unfold itemsC;split<;>simp
theorem itemsI_length(t:CTrap)(i:Nat)(hC:t.C≤4):((itemsI t i).length:Int)≤12:=by
 have: ∀l:List Nat,((l.flatMap (itemsC t i)).length:Int)≤3*l.length:=fun l=>by
  induction l with
  |nil=>simp
  |cons a l ih=>have:=itemsC_length (t:=t) (i:=i) (c:=a);simp only[List.flatMap_cons,List.length_append,List.length_cons];omega
 have:=this (List.range t.C)
 simp only[List.length_range]at this
 unfold itemsI;omega
theorem items_length {t:CTrap}(hC:t.C≤4)(hT:t.T≤5)(hw:t.words.length≤9):((items t).length:Int)≤69:=by
 have: ∀l:List Nat,((l.flatMap (itemsI t)).length:Int)≤12*l.length:=fun l=>by
  induction l with
  |nil=>simp
  |cons a l ih=>have:=itemsI_length t a hC;simp only[List.flatMap_cons,List.length_append,List.length_cons];omega
 have:=this (List.range t.T)
 simp only[List.length_range]at this
 unfold items
 rw[List.length_append,List.length_map];omega
theorem InvS.pass {t:CTrap}(h:TrapOk t) {S:CMat} {ch:Bool}(hi:InvS t.T t.C 3000 S)(hf:(runI (items t) ⟨S,ch⟩).2=true):InvS t.T t.C 3000 (runI (items t) ⟨S,ch⟩).1.S:=by
 have hok:=items_ok h
 have hs:=runI_spec (items t) ⟨S,ch⟩ hok.ok hi.shape hi.near
 have hb:=big_of_chk hok.pos hi.near fun i c hi hc=>hs.chk hf i c (hok.all i c hi hc)
 have hc:=h.cc
 have ht:=h.tt
 have e1:t.C=t.chambers.toNat:=rfl
 have e2:t.T=t.times.toNat:=rfl
 have hl:=items_length (t:=t) (by omega) (by omega) h.words
 exact(InvS.run (items t) 40 ⟨S,ch⟩ hok.ok ⟨hi.shape,hi.near,hb⟩).weaken (by omega)
theorem InvS.free(t:CTrap):InvS t.T t.C 3000 (freeL t):=⟨free_shape t,free_near t,fun i c hi hc=>by rw[free_at t hi hc];split<;>decide⟩
theorem InvS.put(t:CTrap) {j d:Nat}(hj:j<t.T)(hd:d≤t.C) {n:Int}(hn:0≤n∧n≤40)(h0:d=t.C→n=0):InvS t.T t.C 3000 (putS (freeL t) j d ⟨n,n⟩):=⟨(free_shape t).put hj,put_near hj hd hn h0,fun i c hi hc=>by
 rw[(free_shape t).at_put hj hd hi]
 split
 ·dsimp only;omega
 ·rw[free_at t hi hc];split<;>decide⟩
end Go.Proofs.YtnglkclmplfnpaaGreat

/-
  Watch: the stories, list by list: plain law.
-/
namespace Go.Proofs.YtnglkclmplfnpaaGreat
end Go.Proofs.YtnglkclmplfnpaaGreat

/-
  Watch: blame, list by list: plain law.
-/
namespace Go.Proofs.YtnglkclmplfnpaaGreat
end Go.Proofs.YtnglkclmplfnpaaGreat

/-
  Watch: the books of the chapter's examples: what they come to.
-/
namespace Go.Proofs.YtnglkclmplfnpaaGreat
end Go.Proofs.YtnglkclmplfnpaaGreat

/-
  Watch: the sober watchman; the earlier list: plain law.
-/
namespace Go.Proofs.YtnglkclmplfnpaaGreat
end Go.Proofs.YtnglkclmplfnpaaGreat

/-
  Watch: books of more drink, of one word more: plain law.
-/
namespace Go.Proofs.YtnglkclmplfnpaaGreat
theorem More.t {b o:WBook}(h:More b o):o.T=b.T:=by show o.trap.T=b.trap.T;rw[h.trap]
end Go.Proofs.YtnglkclmplfnpaaGreat

/-
  Watch: the word's answer: plain law.
-/
namespace Go.Proofs.YtnglkclmplfnpaaGreat
theorem Sobered.t {b o:WBook} {n:Int}(h:Sobered b o n):o.T=b.T:=by show o.trap.T=b.trap.T;rw[h.trap]
theorem Sobered.ok {b o:WBook} {n:Int}(h:Sobered b o n)(hb:BookOk b)(hs:o.sober∈allL o.T):BookOk o where
 trap:=by rw[h.trap];exact hb.trap
 drunk:=by rw[h.drunk];exact hb.drunk
 run:=by rw[h.run];exact hb.run
 sober:=hs
end Go.Proofs.YtnglkclmplfnpaaGreat

/-
  Watch: a story: plain law.
-/
namespace Go.Proofs.YtnglkclmplfnpaaGreat
end Go.Proofs.YtnglkclmplfnpaaGreat

/-
  Watch: a tale: plain law.
-/
namespace Go.Proofs.YtnglkclmplfnpaaGreat
def wordF(L:List (List Int))(w:CWord):Bool:=wiB ((L.getD w.time.toNat []).getD w.chamber.toNat 0) w.lo w.hi
structure TaleF(b:WBook)(l:List Int)(L:List (List Int)):Prop where
 story:l∈storiesL b
 sol:Sol (trapOf b l) (rowsX L)
 len:L.length=b.T
 row: ∀i,i<b.T→(L.getD i []).length=b.trap.C
section
variable {b : WBook} (h : BookOk b) {l : List Int} {L : List (List Int)} (t : TaleF b l L)
include h t
theorem TaleF.holds {i:Nat}(hi:i<b.trap.words.length):wordF L (wordAt b i)=true↔holdsX (wordAt b i) (rowsX L):=by
 have hw:=wordOk_iff.1 (h.trap.word _ (wordAt_mem hi))
 have htt:=h.trap.tt
 have hcc:=h.trap.cc
 have e1:b.T=b.trap.times.toNat:=rfl
 have e2:b.trap.C=b.trap.chambers.toNat:=rfl
 have hr:=t.row (wordAt b i).time.toNat (by omega)
 have hx:=rowsX_at (L:=L) (i:=(wordAt b i).time.toNat) (c:=(wordAt b i).chamber.toNat) (by omega)
 unfold wordF holdsX
 rw[wiB_iff,hx]
theorem TaleF.fish {i c:Nat}(hi:i<b.T)(hc:c<b.trap.C):(spanW b i c i (c+1)).lo≤(L.getD i []).getD c 0∧(L.getD i []).getD c 0≤(spanW b i c i (c+1)).hi:=by
 have h1:=tale_fish h t.story t.sol hi (Nat.le_of_lt hc) hi hc
 have h2:=rowsX_at (L:=L) (i:=i) (c:=c) (by have:=t.row i hi;omega)
 rw[h2]at h1
 exact h1
theorem TaleF.lies {i:Nat}(hi:i<b.trap.words.length):(wordF L (wordAt b i)=false→liesV b (wordAt b i)≠2)∧(wordF L (wordAt b i)=true→liesV b (wordAt b i)≠1):=by
 have hw:=h.trap.word _ (wordAt_mem hi)
 obtain⟨j2,j1,_⟩:=judge_spec h t.story hw
 have hh:=t.holds h hi
 constructor
 ·intro hf e
  have:=(lies_2 (List.ne_nil_of_mem t.story)).1 e l t.story
  have:=hh.2 (j1.1 this _ t.sol)
  rw[hf]at this;cases this
 ·intro hf e
  have:=lies_1.1 e l t.story
  exact j2.1 this _ t.sol (hh.1 hf)
end
end Go.Proofs.YtnglkclmplfnpaaGreat

/-
  Watch: what a book means: plain law.
-/
namespace Go.Proofs.YtnglkclmplfnpaaGreat
end Go.Proofs.YtnglkclmplfnpaaGreat

/-
  Watch: for what a book is trusted (TopTrusted): plain law.
-/
namespace Go.Proofs.YtnglkclmplfnpaaGreat
theorem Sobered.trapOf {b o:WBook} {n:Int}(h:Sobered b o n)(l:List Int):trapOf o l=trapOf b l:=by
 show lessT o.trap _=lessT b.trap _;rw[h.trap]
theorem Sobered.wide {b o:WBook} {n:Int}(h:Sobered b o n):Wide o b where
 c:=by rw[h.trap]
 t:=by rw[h.trap]
 story l hl:=by rw[h.stories]at hl;exact(List.mem_filter.1 hl).1
 less l _:=by rw[h.trapOf];exact⟨rfl,rfl,rfl,fun _ h=>h⟩
theorem Sobered.tale {b o:WBook} {n:Int}(h:Sobered b o n) {l:List Int} {L:List (List Int)}(t:TaleF b l L)(hn:n∉l):TaleF o l L where
 story:=by rw[h.stories];exact List.mem_filter.2 ⟨t.story,by simpa using hn⟩
 sol:=by rw[h.trapOf];exact t.sol
 len:=by rw[h.t];exact t.len
 row:=by rw[h.t,h.trap];exact t.row
end Go.Proofs.YtnglkclmplfnpaaGreat

/-
  Watch: types; helpers of the references (not built yet).
-/
namespace Go.Proofs.YtnglkclmplfnpaaGreat
open Go.Ab
@[simp] theorem denV_fn(f first cap args lab s):denV T (.fn f first cap) args lab s=den T f (first ++args ++cap) lab s:=rfl
@[simp] theorem map_cInt(r:Ren)(l):(es cInt l).map (V.mapAll r)=es cInt l:=es_map _ _ (fun _=>by simp) _
@[simp] theorem strip_cInt(l):(es cInt l).map V.stripAll=es cInt l:=es_strip _ (fun _=>by simp) _
@[simp] theorem refs_cInt(own:Bool)(d:Nat)(l):(es cInt l).flatMap (V.refsAll own d)=[]:=es_refs _ _ _ (fun _=>by simp) _
@[simp] theorem elems_cInt(l):elemsOk (es cInt l) 1=true:=elemsOk_es _ _ (fun _=>by simp) _
@[simp] def cCSp(a:CSp):List V:=[i64 a.lo,i64 a.hi]
@[simp] theorem map_cCSp(r:Ren)(l):(es cCSp l).map (V.mapAll r)=es cCSp l:=es_map _ _ (fun _=>by simp) _
@[simp] theorem strip_cCSp(l):(es cCSp l).map V.stripAll=es cCSp l:=es_strip _ (fun _=>by simp) _
@[simp] theorem refs_cCSp(own:Bool)(d:Nat)(l):(es cCSp l).flatMap (V.refsAll own d)=[]:=es_refs _ _ _ (fun _=>by simp) _
@[simp] theorem elems_cCSp(l):elemsOk (es cCSp l) 2=true:=elemsOk_es _ _ (fun _=>by simp) _
@[simp] theorem CSp.eta(s:CSp):CSp.mk s.lo s.hi=s:=rfl
@[simp] def cWord(w:CWord):List V:=[i64 w.time,i64 w.chamber,i64 w.lo,i64 w.hi]
@[simp] theorem map_cWord(r:Ren)(l):(es cWord l).map (V.mapAll r)=es cWord l:=es_map _ _ (fun _=>by simp) _
@[simp] theorem strip_cWord(l):(es cWord l).map V.stripAll=es cWord l:=es_strip _ (fun _=>by simp) _
@[simp] theorem refs_cWord(own:Bool)(d:Nat)(l):(es cWord l).flatMap (V.refsAll own d)=[]:=es_refs _ _ _ (fun _=>by simp) _
@[simp] theorem elems_cWord(l):elemsOk (es cWord l) 4=true:=elemsOk_es _ _ (fun _=>by simp) _
@[simp] theorem CWord.eta(w:CWord):CWord.mk w.time w.chamber w.lo w.hi=w:=rfl
@[simp] def cInts(l:List Int):List V:=[.sl .no 1 (es cInt l)]
@[simp] theorem map_cInts(r:Ren)(h:r.c .no= .no)(l):(es cInts l).map (V.mapAll r)=es cInts l:=es_map _ _ (fun _=>by simp[h]) _
@[simp] theorem map_cInts_d(d keep l):(es cInts l).map (V.mapAll (dropR d keep))=es cInts l:=map_cInts _ rfl l
@[simp] theorem map_cInts_f(d k z e l):(es cInts l).map (V.mapAll (frzR d k z e))=es cInts l:=map_cInts _ rfl l
@[simp] theorem map_cInts_r(own d loc ls d' lab l):(es cInts l).map (V.mapAll (renR own d loc ls d' lab))=es cInts l:=map_cInts _ (by cases own<;>rfl) l
@[simp] theorem strip_cInts(l):(es cInts l).map V.stripAll=es cInts l:=es_strip _ (fun _=>by simp) _
@[simp] theorem refs_cInts(own:Bool)(d:Nat)(l):(es cInts l).flatMap (V.refsAll own d)=[]:=es_refs _ _ _ (fun _=>by cases own<;>simp[V.refs,Cap.refs]) _
@[simp] theorem elems_cInts(l):elemsOk (es cInts l) 1=true:=elemsOk_es _ _ (fun _=>by simp) _
@[simp] theorem CTrap.eta(t:CTrap):CTrap.mk t.chambers t.times t.opn t.words=t:=rfl
@[simp] theorem WBook.eta(b:WBook):WBook.mk b.trap b.drunk b.run b.sober=b:=rfl
@[simp] theorem e_Within(n lo hi:Int)(lab s):den T 46 [i64 n,i64 lo,i64 hi] lab s=some (.bool (wiB n lo hi),s):=by
 rw[den_fn t46 _ _ _ rfl]
 simp only[b46]
 by_cases h:lo≤n<;>simp[h,wiB]
@[simp] theorem e_withinC(n lo hi:Int)(lab s):den T 39 [i64 n,i64 lo,i64 hi] lab s=some (.bool (wiB n lo hi),s):=by
 rw[den_fn t39 _ _ _ rfl]
 simp only[b39]
 by_cases h:lo≤n<;>simp[h,wiB]
theorem e_In_l(l:List Int)(n:Int)(s:Stk)(hl:l.length<4611686018427387904):
 Run T b30l0 [(0, .sl .no 1 (es cInt l)),(1,i64 n),(5,i64 0)] ([]::s)=if anyB (fun x=>decide (x=n)) l=true then some (.ret,[(4, .bool true)],[]::s)else some (.exit 0,[(0, .sl .no 1 (es cInt l)),(1,i64 n),(5,i64 l.length),(9, .bool false)],[]::s):=by
 refine loop_any l (fun x=>decide (x=n)) (fun k=>[(0, .sl .no 1 (es cInt l)),(1,i64 n),(5,i64 k)]) (fun _=>[]::s) _ _ (by simp) (by simp) ?_ (by simp) _ _ (by simp) (by simp)
 intro k hk
 by_cases h:l[k]=n<;>simp[hk,h,wk k (by omega)]
@[simp] theorem e_In(l:List Int)(n:Int)(hl:l.length<4611686018427387904)(lab s):
 den T 30 [.sl .no 1 (es cInt l),i64 n] lab s=some (.bool (anyB (fun x=>decide (x=n)) l),s):=by
 rw[den_fn t30 _ _ _ rfl]
 simp only[b30]
 cases hx:anyB (fun x=>decide (x=n)) l<;>simp[e_In_l,hl,hx]
def risingAt(l:List Int)(lo hi:Int)(k:Nat):Bool:=wiB (l.getD k 0) lo hi&&(k==0||decide (l.getD (k-1) 0<l.getD k 0))
def rising(l:List Int)(lo hi:Int):Bool:=allB (risingAt l lo hi) (List.range l.length)
theorem e_Rising_l0(l:List Int)(lo hi:Int)(s:Stk)(hl:l.length<4611686018427387904):
 Run T b29l0 [(0, .sl .no 1 (es cInt l)),(1,i64 lo),(2,i64 hi),(7,i64 0)] ([]::s)=
  if rising l lo hi=true then some (.exit 0,[(0, .sl .no 1 (es cInt l)),(1,i64 lo),(2,i64 hi),(7,i64 l.length),(11, .bool false)],[]::s)
  else some (.ret,[(6, .bool false)],[]::s):=by
 refine loop_all (List.range l.length) (risingAt l lo hi) (fun k=>[(0, .sl .no 1 (es cInt l)),(1,i64 lo),(2,i64 hi),(7,i64 k)]) (fun _=>[]::s) _ _ (by simp) (by simp) ?_ (by simp) _ _ (by simp) (by simp)
 intro k hk
 simp only[List.length_range]at hk
 simp only[List.getElem_range]
 have hg:l.getD k 0=l[k]:=by simp[List.getD,hk]
 cases h0:wiB l[k] lo hi
 ·simp (disch:=first|omega|assumption|decide +kernel|(simp;done)|(simp;omega)|fail) [hk,h0,risingAt]
 by_cases h1:k=0
 ·subst h1
  simp (disch:=first|omega|assumption|decide +kernel|(simp;done)|(simp;omega)|fail) [hk,h0,risingAt,wi]
 have hk1:k-1<l.length:=by omega
 have h1p:0<k:=by omega
 have h1q:(1:Int)≤k:=by omega
 have hg1:l.getD (k-1) 0=l[k-1]:=by simp[List.getD,hk1]
 have hn:((k:Int)-1).toNat=k-1:=by omega
 by_cases h2:l[k-1]<l[k]
 ·have h3: ¬l[k]≤l[k-1]:=by omega
  simp (disch:=first|omega|assumption|decide +kernel|(simp;done)|(simp;omega)|fail) [hk,hk1,h0,h1,h1p,h1q,h2,h3,hn,risingAt,wi]
 ·have h3:l[k]≤l[k-1]:=by omega
  simp (disch:=first|omega|assumption|decide +kernel|(simp;done)|(simp;omega)|fail) [hk,hk1,h0,h1,h1p,h1q,h2,h3,hn,risingAt,wi]
@[simp] theorem e_Rising(l:List Int)(lo hi:Int)(hl:l.length<4611686018427387904)(lab s):
 den T 29 [.sl .no 1 (es cInt l),i64 lo,i64 hi] lab s=some (.bool (rising l lo hi),s):=by
 rw[den_fn t29 _ _ _ rfl]
 simp only[b29]
 cases h:rising l lo hi<;>simp[e_Rising_l0,hl,h]
theorem rising_mem {cut:List Int} {lo hi:Int}(h:rising cut lo hi=true) {k:Nat}(hk:k<cut.length):lo≤cut[k]∧cut[k]≤hi∧(0<k→cut.getD (k-1) 0<cut[k]):=by
 simp only[rising,allB,List.all_eq_true,List.mem_range]at h
 have:=h k hk
 have hg:cut.getD k 0=cut[k]:=by simp[List.getD,hk]
 simp only[risingAt,hg,Bool.and_eq_true,Bool.or_eq_true,wiB,decide_eq_true_eq,beq_iff_eq]at this
 refine⟨this.1.1,this.1.2,fun h0=> ?_⟩
 rcases this.2 with h|h
 ·omega
 ·exact h
theorem rising_iff {l:List Int} {lo hi:Int}:rising l lo hi=true↔l.Pairwise (· < ·)∧ ∀x∈l,lo≤x∧x≤hi:=by
 constructor
 ·intro hr
  refine⟨?_,fun x hx=> ?_⟩
  ·rw[List.pairwise_iff_getElem]
   intro i j hi hj hij
   induction j with
   |zero=>omega
   |succ j ih=>
     have h1:=(rising_mem hr hj).2.2 (by omega)
     have e:l.getD (j+1-1) 0=l[j]:=by simp[List.getD,show j<l.length by omega]
     rw[e]at h1
     by_cases e2:i=j
     ·subst e2;exact h1
     ·have:=ih (by omega) (by omega);omega
  ·obtain⟨k,hk,rfl⟩:=List.getElem_of_mem hx
   have:=rising_mem hr hk
   exact⟨this.1,this.2.1⟩
 ·rintro⟨h1,h2⟩
  rw[List.pairwise_iff_getElem]at h1
  simp only[rising,allB,List.all_eq_true,List.mem_range]
  intro k hk
  have hg:l.getD k 0=l[k]:=by simp[List.getD,hk]
  have:=h2 _ (List.getElem_mem hk)
  simp only[risingAt,hg,Bool.and_eq_true,Bool.or_eq_true,wiB,decide_eq_true_eq,beq_iff_eq]
  refine⟨this,?_⟩
  by_cases h0:k=0
  ·exact .inl h0
  ·right
   have hk1:k-1<l.length:=by omega
   have e:l.getD (k-1) 0=l[k-1]:=by simp[List.getD,hk1]
   rw[e];exact h1 (k-1) k hk1 hk (by omega)
theorem e_Index_l(l:List Int)(n:Int)(S:Stk)(hl:l.length<4611686018427387904):
 ∃g:Nat,Run T b57l0 [(0, .sl .no 1 (es cInt l)),(1,i64 n),(7,i64 l.length),(8,i64 0)] ([]::S)=
  if allB (fun x=> !decide (x=n)) l=true then some (.exit 0,[(0, .sl .no 1 (es cInt l)),(1,i64 n),(7,i64 l.length),(8,i64 l.length),(9, .bool false)],[]::S)else some (.ret,[(4,i64 (g:Nat))],[]::S):=by
 refine loop_all_g l (fun x=> !decide (x=n)) (fun k=>[(0, .sl .no 1 (es cInt l)),(1,i64 n),(7,i64 l.length),(8,i64 k)]) (fun _=>[]::S) (fun g:Nat=>(.ret,[(4,i64 (g:Nat))],[]::S)) _ (by simp) (by simp) ?_ (by simp) _ _ (by simp) (by simp)
 intro k hk
 refine⟨k,?_⟩
 by_cases h:l[k]=n
 ·have h':n=l[k]:=h.symm
  simp (disch:=first|omega|assumption|decide +kernel|(simp;done)|(simp;omega)|fail) [hk,h,wk k (by omega)]
 ·have h': ¬n=l[k]:=fun e=>h e.symm
  simp (disch:=first|omega|assumption|decide +kernel|(simp;done)|(simp;omega)|fail) [hk,h,h',wk k (by omega)]
@[simp] theorem e_Contains(l:List Int)(n:Int)(S:Stk)(hl:l.length<4611686018427387904)(lab):
 den T 34 [.sl .no 1 (es cInt l),i64 n] lab S=some (.bool (anyB (fun x=>decide (x=n)) l),S):=by
 have ha:anyB (fun x=>decide (x=n)) l= !allB (fun x=> !decide (x=n)) l:=by simp only[anyB,allB,List.not_all_eq_any_not,Bool.not_not]
 have hi: ∃r:Int,(∀lab S',S'=[]::S→den T 57 [.sl .no 1 (es cInt l),i64 n] lab S'=some (i64 r,S'))∧(0≤r↔anyB (fun x=>decide (x=n)) l=true):=by
  obtain⟨g,hg⟩:=e_Index_l l n ([]::S) hl
  rw[ha]
  refine⟨if allB (fun x=> !decide (x=n)) l=true then -1 else g,?_,?_⟩
  rotate_left
  ·cases allB (fun x=> !decide (x=n)) l<;>simp
  intro lab S' hS
  subst hS
  rw[den_fn t57 _ _ _ rfl]
  simp only[b57]
  cases h:allB (fun x=> !decide (x=n)) l<;>simp (disch:=first|omega|assumption|decide +kernel|(simp;done)|(simp;omega)|fail) [hg,h]
 obtain⟨r,hr,hi⟩:=hi
 have hr':=fun lab=>hr lab _ rfl
 rw[den_fn t34 _ _ _ rfl]
 simp only[b34]
 by_cases h:0≤r
 ·have:=hi.1 h
  simp (disch:=first|omega|assumption|decide +kernel|(simp;done)|(simp;omega)|fail) [hr',h,this]
 ·have:anyB (fun x=>decide (x=n)) l=false:=by cases hx:anyB (fun x=>decide (x=n)) l;rfl;exact absurd (hi.2 hx) h
  simp (disch:=first|omega|assumption|decide +kernel|(simp;done)|(simp;omega)|fail) [hr',h,this]
abbrev has(l:List Int)(n:Int):Bool:=anyB (fun x=>decide (x=n)) l
end Go.Proofs.YtnglkclmplfnpaaGreat

/-
  slices.SortFunc by the library's own contract: what it does to an array that the evaluator keeps, where 'cmp' is a total order that the evaluator computes.
-/
import Derived.Test.YtmgkcipcjabigaaGreatDoorAb8
import Derived.Shelf.SlSortCmp.Whole1
import Derived.Shelf.GgSortFunc.RowK
import Derived.Lib.QuietBelow
import Derived.Sort.EveryDepth
import Derived.Shelf.Sort.AssemblyIn
set_option linter.unusedSimpArgs false
set_option linter.unusedVariables false
namespace Go.Ab
open Go.Proofs Go.Sort Go.Shelf Go.RowKit
noncomputable def cmpV(T0:Tab)(agg:Bool)(g:FuncId)(cap:List V)(x y:List V):Option Int:=
 match den T0 g ((if agg then [.agg x, .agg y]else x ++y) ++cap) 0 []with
 |some (.int .i64 n,_)=>some n
 |_=>none
structure Total(c:List V→List V→Option Int)(es:List (List V)):Prop where
 some: ∀x∈es,∀y∈es,∃n,c x y=some n
 irr: ∀x∈es,∀n,c x x= .some n→ ¬n<0
 tr: ∀x∈es,∀y∈es,∀z∈es,∀m n k,c x y= .some m→c y z= .some n→c x z= .some k→m<0→n<0→k<0
 tot: ∀x∈es,∀y∈es,∀m n,c x y= .some m→c y x= .some n→ ¬m<0→ ¬n<0→x=y
def SortedBy(c:List V→List V→Option Int)(es r:List (List V)):Prop:=r.Perm es∧r.Pairwise fun x y=> ∀n,c y x=some n→ ¬n<0
theorem SortedBy.unique {c:List V→List V→Option Int} {es r r':List (List V)}(ht:Total c es)(h:SortedBy c es r)(h':SortedBy c es r'):r=r':=by
 refine List.Perm.eq_of_pairwise (le:=fun x y=> ∀n,c y x=some n→ ¬n<0) ?_ h.2 h'.2 (h.1.trans h'.1.symm)
 intro a b ha hb k1 k2
 have ha':=h.1.mem_iff.1 ha
 have hb':=h'.1.mem_iff.1 hb
 obtain⟨m,hm⟩:=ht.some a ha' b hb'
 obtain⟨n,hn⟩:=ht.some b hb' a ha'
 exact ht.tot a ha' b hb' m n hm hn (k2 m hm) (k1 n hn)
def sorted(x:Entry)(r:List (List V)):Entry:=match x with
 | .arr z _=> .arr z r
 | .harr _ z es=> .harr es.length z r
 |x=>x
def rowsOf:Entry→Option (Nat×List (List V))
 | .arr z es=>some (z,es)
 | .harr _ z es=>some (z,es)
 |_=>none
open Classical in
noncomputable def sortFP(T0:Tab)(agg:Bool):List V→Nat→Stk→Option (V×Stk)
 |[.asl d l sz q o n, .fn g first cap],_,s=>match sget s d l with
   |some x=>match rowsOf x with
     |some (z,es)=>
       if h:(z=sz∧q=es.length∧o=0∧n=es.length∧first=[]∧(agg=false→z=1))∧es≠[]∧es.length<4611686018427387904∧(∀x∈es,V.elemAll x=true)∧V.pureAll cap=true∧Total (cmpV T0 agg g cap) es∧ ∃r,SortedBy (cmpV T0 agg g cap) es r then
        some (.tup [],sput s d l (sorted x (Classical.choose h.2.2.2.2.2.2)))
       else none
     |none=>none
   |none=>none
 |_,_,_=>none
theorem sortFP_eq {T0:Tab} {agg:Bool} {d l sz n:Nat} {g:FuncId} {cap:List V} {lab:Nat} {s:Stk} {x:Entry} {es r:List (List V)}(hg:sget s d l=some x)(hx:rowsOf x=some (sz,es))(hn:n=es.length)(h1:agg=false→sz=1)(h2:es≠[])(h3:es.length<4611686018427387904)
 (h4: ∀x∈es,V.elemAll x=true) (h5:V.pureAll cap=true) (h6:Total (cmpV T0 agg g cap) es) (h7:SortedBy (cmpV T0 agg g cap) es r):
 sortFP T0 agg [.asl d l sz n 0 n, .fn g [] cap] lab s=some (.tup [],sput s d l (sorted x r)):=by
 subst hn
 simp only[sortFP,hg,hx]
 rw[dif_pos ⟨⟨rfl,rfl,rfl,rfl,rfl,h1⟩,h2,h3,h4,h5,h6,r,h7⟩]
 have: ∀(p: ∃r,SortedBy (cmpV T0 agg g cap) es r),Classical.choose p=r:=fun p=>SortedBy.unique h6 (Classical.choose_spec p) h7
 rw[this]
theorem sortFP_inv {T0:Tab} {agg:Bool} {args lab s v s'}(h:sortFP T0 agg args lab s=some (v,s')): ∃d l sz g cap x es r,args=[.asl d l sz es.length 0 es.length, .fn g [] cap]∧sget s d l=some x∧rowsOf x=some (sz,es)∧(agg=false→sz=1)∧es≠[]∧es.length<4611686018427387904∧
 (∀x∈es,V.elemAll x=true)∧V.pureAll cap=true∧Total (cmpV T0 agg g cap) es∧SortedBy (cmpV T0 agg g cap) es r∧v= .tup []∧s'=sput s d l (sorted x r):=by
 unfold sortFP at h
 split at h
 ·rename_i _ s d l sz q o n g first cap
  split at h
  ·rename_i x hg
   split at h
   ·rename_i z es hx
    split at h
    ·rename_i hc
     cases h
     obtain⟨⟨rfl,rfl,rfl,rfl,rfl,h1⟩,h2,h3,h4,h5,h6,h7⟩:=hc
     exact⟨d,l,z,g,cap,x,es,_,rfl,hg,hx,h1,h2,h3,h4,h5,h6,Classical.choose_spec h7,rfl,rfl⟩
    ·cases h
   ·cases h
  ·cases h
 ·cases h
theorem den_pure {P:Program} {T0:Tab}(hm:P.follows .mixedOrders=true)(tab:TabOk P T0) {g:FuncId} {args:List V} {n:Int} {s':Stk}(hd:den T0 g args 0 []=some (.int .i64 n,s')) {W:World}(hG:GlobOk (KP P) W γ0) {us:List Value}(hl:LR 0 W γ0 args us):
 Calls P g us.toArray W fun e w'=>e= .returned (.int .i64 n)∧ ∃q os',w'=grow (W.drewN q) os':=by
 have h:=(den_sound hm tab hd).2 W γ0 us hl (sr0 hG)
 refine h.mono ?_
 rintro en w' ⟨u,γ',rfl,k1,_,k3,_⟩
 refine⟨by rw[k1.int_inv],?_⟩
 obtain⟨p,hp⟩:=regrown_of_below (w:=W) (w':=w') ⟨k3.os,k3.tape,k3.output,k3.size,fun b hb=>k3.block b hb (fun off=>own0)⟩
 have hdr:W.drawn≤p.d:=by
  have:=k3.drawn
  rw[hp]at this
  exact this
 refine⟨p.d-W.drawn,p.os,?_⟩
 rw[hp]
 have:redrawn W p.d=W.drewN (p.d-W.drawn):=by
  unfold redrawn World.drewN
  rw[Nat.add_sub_cancel' hdr]
 rw[this]
section
variable {P : Program} {s : Stk} {w : World} {γ : G} {d l z b k : Nat} {es : List (List V)} {c : Array Value} {e : TypeId}
structure RowOf(P:Program)(s:Stk)(w:World)(γ:G)(d l z b k:Nat)(es:List (List V))(c:Array Value)(e:TypeId):Prop where
 sr:SR (KP P) s w γ
 ge: ∃g,γ d l=some g∧g.blk=some b∧ ∀o,g.owns b o
 heap:w.heap[b]? =some (.cells c e (0,0))
 le:es.length≤k
 csz:c.size=k*z
 pos:0<z
 lim:k≤maxLen
 sz: ∀cs,cs∈es→cs.length=z
 vr: ∀(i:Nat) cs (j:Nat) v u,es[i]? =some cs→cs[j]? =some v→c[i*z+j]? =some u→VR (d+1) w γ v u
theorem RowOf.lt(R:RowOf P s w γ d l z b k es c e):d<s.length:=by
 obtain⟨g,h,_⟩:=R.ge
 exact R.sr.lt h
def encF(z:Nat)(c:Array Value)(N:Nat)(i:Fin N):List Value:=(List.range z).map fun j=>c[i.val*z+j]!
@[simp] theorem encF_length(z:Nat)(c:Array Value)(N:Nat)(i:Fin N):(encF z c N i).length=z:=by simp[encF]
def turned(w:World)(b z m:Nat)(c:Array Value) {N:Nat}(dk:Array (Fin N))(os:Array Obj) [Inhabited (Fin N)]:World:=grow (putRow id (Go.Sort.ahead w m) b 0 (flatK (encF z c N) z dk)) os
variable {N : Nat} [Inhabited (Fin N)] {dk : Array (Fin N)} {m : Nat} {os : Array Obj}
theorem turned_same {b':Nat}(h1:b'<w.heap.size)(h2:b'≠b):(turned w b z m c dk os).heap[b']? =w.heap[b']? :=by
 unfold turned
 rw[heap_grow_old _ _ (by simpa [putRow,mapBlock,Go.Sort.ahead]using h1)]
 simp[putRow,mapBlock,Go.Sort.ahead,Array.getElem?_modify,Ne.symm h2]
theorem turned_blk(h:w.heap[b]? =some (.cells c e (0,0))):(turned w b z m c dk os).heap[b]? =some (.cells (putCells id 0 (flatK (encF z c N) z dk) c) e (0,0)):=by
 unfold turned
 have hbs:b<w.heap.size:=(Array.getElem?_eq_some_iff.1 h).1
 rw[heap_grow_old _ _ (by simpa [putRow,mapBlock,Go.Sort.ahead]using hbs)]
 simp[putRow,mapBlock,Go.Sort.ahead,Array.getElem?_modify,h,onCells]
theorem turned_cell(hsz:dk.size*z≤c.size) {i j:Nat}(hi:i<dk.size)(hj:j<z):(putCells id 0 (flatK (encF z c N) z dk) c)[i*z+j]? =some c[dk[i].val*z+j]! :=by
 have h1:i*z+j<dk.size*z:=by
  have:=Nat.mul_le_mul_right z (show i+1≤dk.size from hi)
  rw[Nat.add_mul,Nat.one_mul]at this
  omega
 have hc:i*z+j<c.size:=by omega
 have e1:(i*z+j)/z=i:=by
  rw[Nat.mul_comm,Nat.mul_add_div (by omega),Nat.div_eq_of_lt hj,Nat.add_zero]
 have e2:(i*z+j)%z=j:=by
  rw[Nat.mul_comm,Nat.mul_add_mod,Nat.mod_eq_of_lt hj]
 unfold putCells
 rw[Array.getElem?_mapIdx,Array.getElem?_eq_getElem hc]
 simp only[Option.map_some,size_flatK,Nat.zero_add,Nat.zero_le,true_and,Nat.sub_zero,id]
 rw[if_pos h1,get_flatK _ _ _ _ h1,e1,e2]
 simp[encF,hj,hi]
theorem turned_ext(R:RowOf P s w γ d l z b k es c e):Ext s.length w γ (turned w b z m c dk os) γ:=by
 have hbs:b<w.heap.size:=(Array.getElem?_eq_some_iff.1 R.heap).1
 obtain⟨g,hg,hb,ho⟩:=R.ge
 have hown: ∀o,Own γ b o:=fun o=>⟨d,l,g,hg,ho o⟩
 exact
  { os := rfl
    tape:=rfl
    output:=rfl
    size:=by simp[turned,putRow,mapBlock,Go.Sort.ahead]
    drawn:=Nat.le_add_right _ _
    cell:=fun _ _ _ _ h=>h
    obj:=fun _ _ _ _ h=>h
    arr:=fun _ _ n blk _ h=>⟨n,blk,h, .inl ⟨rfl,rfl⟩⟩
    harr:=fun _ _ lo N _ f _ h=>⟨lo,N,f,h,Nat.le_refl _,Nat.le_refl _,fun _ _ _=>rfl⟩
    tok:=fun _ _ n blk _ h=>⟨n,blk,h, .inl ⟨rfl,rfl⟩⟩
    keep:=fun b' off u hu hno=>by
     have hne':b'≠b:=fun h=>hno (h▸hown off)
     have hlt:b'<w.heap.size:=by
      apply Nat.lt_of_not_le
      intro hle
      simp[World.cell?,Array.getElem?_eq_none hle]at hu
     simp only[World.cell?,turned_same hlt hne']at hu⊢
     exact hu
    free:=fun _ _ _ h=>h
    block:=fun b' hlt hno=>turned_same hlt (fun h=>hno 0 (h▸hown 0))
    frn:=fun _=>rfl
    fheap:=fun l' g' b' hg' hb'=>turned_same (R.sr.frn l' g' b' hg' hb') (fun h=>R.sr.notfrn hg hb l' g' hg' (h▸hb'))}
theorem turned_at(R:RowOf P s w γ d l z b k es c e)(hN:N=es.length)(hdk:dk.size=N)(i:Nat)(cs:List V)(j:Nat)(v:V)(k1:(dk.toList.map fun i=>es[i.val]'(hN▸i.isLt))[i]? =some cs)(k2:cs[j]? =some v):
 ∃u,(putCells id 0 (flatK (encF z c N) z dk) c)[i*z+j]? =some u∧VR (d+1) (turned w b z m c dk os) γ v u:=by
 have hx:=turned_ext (m:=m) (dk:=dk) (os:=os) R
 have hNz:dk.size*z≤c.size:=by rw[R.csz,hdk,hN];exact Nat.mul_le_mul_right _ R.le
 simp only[List.getElem?_map,Option.map_eq_some_iff]at k1
 obtain⟨x,k1,rfl⟩:=k1
 have hi:i<dk.size:=by
  have:=(List.getElem?_eq_some_iff.1 k1).1
  simpa using this
 have hxi:dk[i]=x:=by
  have:=(List.getElem?_eq_some_iff.1 k1).2
  simpa using this
 have hxl:x.val<es.length:=hN▸x.isLt
 have hj:j<z:=by
  have:=(List.getElem?_eq_some_iff.1 k2).1
  rwa [R.sz _ (List.getElem_mem _)]at this
 have hxc:x.val*z+j<c.size:=by
  have h1:=Nat.mul_le_mul_right z (show x.val+1≤es.length from hxl)
  have h2:=Nat.mul_le_mul_right z R.le
  rw[Nat.add_mul,Nat.one_mul]at h1
  rw[R.csz]
  omega
 refine⟨c[x.val*z+j]!,by rw[turned_cell hNz hi hj,hxi],?_⟩
 refine(R.vr x.val _ j v _ (List.getElem?_eq_getElem hxl) k2 ?_).ext (hx.mono R.lt)
 rw[getElem!_pos c _ hxc,Array.getElem?_eq_getElem hxc]
theorem turned_sr(R:RowOf P s w γ d l z b k es c e)(hpure: ∀x∈es,V.elemAll x=true)(hN:N=es.length)(hdk:dk.size=N) {x:Entry}(hg:sget s d l=some x)(hrow:rowsOf x=some (z,es)):
 ∃γ',SR (KP P) (sput s d l (sorted x (dk.toList.map fun i=>es[i.val]'(hN▸i.isLt)))) (turned w b z m c dk os) γ'∧Ext s.length w γ (turned w b z m c dk os) γ':=by
 have hx:=turned_ext (m:=m) (dk:=dk) (os:=os) R
 have hat:=fun i cs j v=>turned_at (m:=m) (os:=os) R hN hdk i cs j v
 have hln:(dk.toList.map fun i=>es[i.val]'(hN▸i.isLt)).length=es.length:=by simp[hdk,hN]
 have hbs:b<w.heap.size:=(Array.getElem?_eq_some_iff.1 R.heap).1
 obtain⟨g,hgd,hgb,hgo⟩:=R.ge
 have hother: ∀(d':Option Nat) l' g' b1,¬(d'=some d∧l'=l)→γ d' l'=some g'→g'.blk=some b1→(turned w b z m c dk os).heap[b1]? =w.heap[b1]? :=by
  intro d' l' g' b1 hne' hg' hb1
  refine turned_same (R.sr.blk_lt hg' hb1) ?_
  rintro rfl
  exact hne' (R.sr.inj d' l' g' d l _ b1 hg' hgd hb1 hgb)
 have halone: ∀b1,some b=some b1→ ∀(d':Option Nat) l' g',¬(d'=some d∧l'=l)→γ d' l'=some g'→g'.blk≠some b1:=by
  intro b1 hb1 d' l' g' hne' hg' hb'
  cases hb1
  exact hne' (R.sr.inj d' l' g' d l _ b hg' hgd hb' hgb)
 have hmem: ∀cs,cs∈(dk.toList.map fun i=>es[i.val]'(hN▸i.isLt))→cs∈es:=fun cs hcs=>by
  obtain⟨i,_,rfl⟩:=List.mem_map.1 hcs
  exact List.getElem_mem _
 cases x with
 |arr z' es'=>
   simp only[rowsOf,Option.some.injEq,Prod.mk.injEq]at hrow
   obtain⟨rfl,rfl⟩:=hrow
   obtain⟨blk,k1,_,k2⟩:=R.sr.ent d l _ hg
   rw[k1]at hgd;cases hgd
   obtain⟨k',rfl⟩: ∃k',blk=some (b,z',k'):=by
    cases blk with
    |none=>simp[GE.blk]at hgb
    |some y=>
      obtain⟨b',sz',k'⟩:=y
      simp[GE.blk]at hgb;subst hgb
      obtain⟨rfl,_⟩:=k2
      exact⟨k',rfl⟩
   obtain⟨_,c',e',q3,q4,q5,q6,q7,_⟩:=k2
   rw[R.heap]at q3;cases q3
   have hset:γ.set d l (.arr es'.length (some (b,z',k')))=γ:=set_self k1
   refine⟨γ,R.sr.step (g:= .arr es'.length (some (b,z',k'))) R.lt hx hset.symm ⟨some (b,z',k'),by rw[hln];exact k1,fun cs hcs=>R.sz cs (hmem cs hcs),rfl,_,e,turned_blk R.heap,by rw[hln];exact q4,by simp[putCells,q5],R.pos,q7,?_⟩ hother halone,hx⟩
   intro i cs j v u k1 k2 k3
   obtain⟨u',p1,p2⟩:=hat i cs j v k1 k2
   rw[p1]at k3;cases k3
   exact p2
 |harr lo z' es'=>
   simp only[rowsOf,Option.some.injEq,Prod.mk.injEq]at hrow
   obtain⟨rfl,rfl⟩:=hrow
   obtain⟨f,k1,_,hz,hlo,⟨c',e',q3,q5,q7⟩,k2⟩:=R.sr.ent d l _ hg
   rw[k1]at hgd;cases hgd
   simp[GE.blk]at hgb
   rw[hgb,R.heap]at q3;cases q3
   obtain⟨γ',hγ⟩: ∃γ':G,γ'=γ.set d l (.harr es'.length es'.length z' f):=⟨_,rfl⟩
   have hOwn: ∀b1 off,Own γ' b1 off→Own γ b1 off:=by
    intro b1 off ho
    rw[hγ]at ho
    rcases own_set ho with h|h
    ·exact⟨d,l,_,k1,by simpa [GE.owns]using h⟩
    ·exact h
   have hx2:Ext s.length (turned w b z' m c dk os) γ (turned w b z' m c dk os) γ':=by
    have oth: ∀ {d' l':Nat} {g:GE},γ d' l'=some g→(∀a b c f,g≠ .harr a b c f)→γ' d' l'=some g:=by
     intro d' l' g hg' hna
     rw[hγ,G.set_other];exact hg'
     rintro⟨rfl,rfl⟩
     rw[k1]at hg';cases hg'
     exact hna _ _ _ _ rfl
    refine⟨rfl,rfl,rfl,Nat.le_refl _,Nat.le_refl _,fun d' l' b _ h=>oth h (by rintro _ _ _ _ ⟨⟩),fun d' l' b _ h=>oth h (by rintro _ _ _ _ ⟨⟩),fun d' l' n blk _ h=>⟨n,blk,oth h (by rintro _ _ _ _ ⟨⟩), .inl ⟨rfl,rfl⟩⟩,fun d' l' lo1 N1 sz1 f1 _ h=> ?_,fun d' l' n blk _ h=>⟨n,blk,oth h (by rintro _ _ _ _ ⟨⟩), .inl ⟨rfl,rfl⟩⟩,fun _ _ _ h _=>h,fun b1 off _ hno ho=>hno (hOwn b1 off ho),fun _ _ _=>rfl,fun _=>by rw[hγ];exact G.set_none _ _ _ _ _,fun _ _ _ _ _=>rfl⟩
    by_cases e2:d'=d∧l'=l
    ·obtain⟨rfl,rfl⟩:=e2
     rw[k1]at h;cases h
     exact⟨es'.length,es'.length,f,by rw[hγ,G.set_same],hlo,Nat.le_refl _,fun _ _ _=>rfl⟩
    ·exact⟨lo1,N1,f1,by rw[hγ,G.set_other γ _ e2];exact h,Nat.le_refl _,Nat.le_refl _,fun _ _ _=>rfl⟩
   have hxx:=hx.trans hx2
   refine⟨γ',R.sr.step (g:= .harr es'.length es'.length z' f) R.lt hxx hγ ⟨f,by rw[hγ,G.set_same,hln],fun cs hcs=>⟨R.sz cs (hmem cs hcs),hpure cs (hmem cs hcs)⟩,R.pos,by rw[hln];exact Nat.le_refl _,⟨_,e,by rw[hln,hgb];exact turned_blk R.heap,by rw[hln];simp[putCells,q5],by rw[hln];exact q7⟩,fun m0 m1 m2=> ?_⟩ hother (by intro b1 hb1;simp[GE.blk,hgb]at hb1;exact halone b1 (by rw[hb1])),hxx⟩
   rw[hln]at m2
   have hm0:m0=es'.length:=Nat.le_antisymm m2 m1
   subst hm0
   refine⟨(k2 _ hlo (Nat.le_refl _)).1, .inl (by rw[hln]),fun i cs j v hi p1 p2=> ?_⟩
   obtain⟨u',p3,p4⟩:=hat i cs j v p1 p2
   refine⟨u',?_,p4.ext (hx2.mono R.lt)⟩
   rw[hgb,cell_of_row _ b _ _ e (0,0) (turned_blk R.heap)]
   exact p3
 |_=>simp[rowsOf]at hrow
theorem turned_vr(R:RowOf P s w γ d l z b k es c e)(hp: ∀x∈es,V.elemAll x=true)(hN:N=es.length)(x:Fin N):LR 0 (turned w b z m c dk os) γ0 (es[x.val]'(hN▸x.isLt)) (encF z c N x):=by
 have hxl:x.val<es.length:=hN▸x.isLt
 refine⟨by rw[R.sz _ (List.getElem_mem _),encF_length],fun j v u hv hu=> ?_⟩
 have hj:j<z:=by
  have:=(List.getElem?_eq_some_iff.1 hu).1
  simpa using this
 have hxc:x.val*z+j<c.size:=by
  have h1:=Nat.mul_le_mul_right z (show x.val+1≤es.length from hxl)
  have h2:=Nat.mul_le_mul_right z R.le
  rw[Nat.add_mul,Nat.one_mul]at h1
  rw[R.csz]
  omega
 have hu':c[x.val*z+j]? =some u:=by
  simp only[encF,List.getElem?_map,List.getElem?_range hj,Option.map_some,Option.some.injEq]at hu
  rw[←hu,getElem!_pos c _ hxc,Array.getElem?_eq_getElem hxc]
 have h1:=(R.vr x.val _ j v u (List.getElem?_eq_getElem hxl) hv hu').ext ((turned_ext (m:=m) (dk:=dk) (os:=os) R).mono R.lt)
 exact h1.pureOwn (fun b off h=>(own0 h).elim) 0 (elemAll_mem (hp _ (List.getElem_mem _)) v (List.mem_of_getElem? hv)).1
theorem turned_holds(R:RowOf P s w γ d l z b k es c e)(hN:N=es.length)(hdk:dk.size=N)(hid: ∀i (h:i<dk.size),dk[i].val=i):HoldsK (encF z c N) z w b 0 dk:=by
 intro t ht
 simp only[size_flatK]at ht
 have hz:=R.pos
 have hi:t/z<dk.size:=Nat.div_lt_of_lt_mul (by rw[Nat.mul_comm];exact ht)
 have hj:t%z<z:=Nat.mod_lt _ hz
 have htc:t<c.size:=by
  have h2:=Nat.mul_le_mul_right z R.le
  rw[R.csz]
  rw[hdk,hN]at ht
  omega
 refine⟨?_,by simp[World.frozen?,R.heap]⟩
 simp only[World.cell?,R.heap,Nat.zero_add,id]
 rw[get_flatK _ _ _ _ ht]
 simp only[Option.isSome_none,Bool.false_eq_true,if_false]
 have e1:dk[t/z]! =dk[t/z]:=getElem!_pos dk _ hi
 rw[e1]
 simp only[encF]
 rw[getElem!_pos _ (t%z) (by simpa using hj)]
 simp only[List.getElem_map,List.getElem_range]
 rw[hid _ hi,Nat.div_add_mod' t z,getElem!_pos c _ htc,Array.getElem?_eq_getElem htc]
end
theorem sort_args {P:Program} {s:Stk} {w:World} {γ:G} {d l sz:Nat} {g:FuncId} {cap:List V} {x:Entry} {es:List (List V)} {us:List Value}(hS:SR (KP P) s w γ)(hg:sget s d l=some x)(hrow:rowsOf x=some (sz,es))(hne:es≠[])
 (hl:LR s.length w γ [.asl d l sz es.length 0 es.length, .fn g [] cap] us): ∃b k c e cb,us=[.slice (some ⟨b,0,none⟩) es.length k, .func (.func g) #[] cb]∧RowOf P s w γ d l sz b k es c e∧LR s.length w γ cap cb.toList:=by
 obtain⟨u1,us1,rfl,h1,r1⟩:=hl.inv
 obtain⟨u2,us2,rfl,h2,r2⟩:=r1.inv
 have:us2=[]:=List.eq_nil_of_length_eq_zero r2.1.symm
 subst this
 have hpos:0<es.length:=List.length_pos_iff.2 hne
 cases h2 with
 |fn _ _ _ us ws a1 a2 b1 b2=>
   have hus:us= #[]:=Array.size_eq_zero_iff.1 (by simpa using a1.symm)
   subst hus
   have hcap:LR s.length w γ cap ws.toList:=⟨by simpa using a2,fun i v u hv hu=>b2 i v u hv (by simpa using hu)⟩
   cases x with
   |arr z' es'=>
     simp only[rowsOf,Option.some.injEq,Prod.mk.injEq]at hrow
     obtain⟨rfl,rfl⟩:=hrow
     obtain⟨blk,k1,k0,k2⟩:=hS.ent d l _ hg
     generalize hN:es'.length=N at h1
     cases h1 with
     |aslnil=>omega
     |aslold _ _ _ _ _ _ N' _ _ _ _ hd hb hn=>rw[hb]at k1;cases k1;omega
     |aslh _ _ _ _ _ _ lo N' f hd hb=>rw[hb]at k1;cases k1
     |aslho _ _ _ _ _ _ lo N' sz' f _ _ _ hd hb=>rw[hb]at k1;cases k1
     |asl _ _ _ _ _ _ b k hd hb hle hk=>
       subst hN
       rw[hb]at k1;cases k1
       obtain⟨_,c,e,q3,q4,q5,q6,q7,q8⟩:=k2
       exact⟨b,k,c,e,ws,by simp,⟨hS,⟨_,hb,rfl,fun _=>rfl⟩,q3,q4,q5,q6,q7,k0,q8⟩,hcap⟩
   |harr lo z' es'=>
     simp only[rowsOf,Option.some.injEq,Prod.mk.injEq]at hrow
     obtain⟨rfl,rfl⟩:=hrow
     obtain⟨f,c,el,p1,rfl,p2,p3,p4,p5,p6,p7,p8,p9⟩:=harr_shape hS hg h1
     refine⟨(f es'.length).1,(f es'.length).2,c,el,ws,rfl,⟨hS,⟨_,p1,rfl,fun _=>rfl⟩,p5,p8,p6,p3,p7,fun cs h=>(p2 cs h).1,fun i cs j v u k1 k2 k3=> ?_⟩,hcap⟩
     obtain⟨u',q1,q2⟩:=(p9 es'.length p4 (Nat.le_refl _)).2.2 i cs j v (List.getElem?_eq_some_iff.1 k1).1 k1 k2
     rw[cell_of_row _ _ _ c el (0,0) p5,k3]at q1
     cases q1
     exact q2
   |_=>simp[rowsOf]at hrow
theorem perm_sorted {N:Nat} {es:List (List V)}(hN:N=es.length) {c:List V→List V→Option Int}(cf:Fin N→Fin N→Int)(hcf: ∀x y:Fin N,c (es[x.val]'(hN▸x.isLt)) (es[y.val]'(hN▸y.isLt))=some (cf x y)) [Inhabited (Fin N)] {d0 d':Array (Fin N)}(h0:d0.toList=List.finRange N)
 (hp:PermIn 0 N d0 d') (hs:SortedIn (ltOf cf) 0 N d'):d'.size=N∧SortedBy c es (d'.toList.map fun i=>es[i.val]'(hN▸i.isLt)):=by
 have hd0:d0.size=N:=by
  have:=congrArg List.length h0
  simpa using this
 have hd':d'.size=N:=hp.1.trans hd0
 have e1:d'.extract 0 N=d':=by
  have:=Array.extract_size (xs:=d')
  rwa [hd']at this
 have e2:d0.extract 0 N=d0:=by
  have:=Array.extract_size (xs:=d0)
  rwa [hd0]at this
 have hperm:=hp.2.2
 rw[e1,e2,h0]at hperm
 refine⟨hd',?_,?_⟩
 ·have:=hperm.map (fun i:Fin N=>es[i.val]'(hN▸i.isLt))
  refine this.trans ?_
  have:(List.finRange N).map (fun i:Fin N=>es[i.val]'(hN▸i.isLt))=es:=by
   apply List.ext_getElem
   ·simp[hN]
   ·intro i h1 h2;simp
  rw[this]
 ·rw[List.pairwise_map,List.pairwise_iff_getElem]
  intro i j hi hj hij n hn
  simp only[Array.length_toList]at hi hj
  have:=hs i j (Nat.zero_le _) hij (by omega)
  rw[getElem!_pos d' j hj,getElem!_pos d' i hi]at this
  simp only[Array.getElem_toList]at hn
  rw[hcf]at hn
  cases hn
  simpa [ltOf]using this
theorem swo_of {N:Nat} {es:List (List V)}(hN:N=es.length) {c:List V→List V→Option Int}(ht:Total c es)(cf:Fin N→Fin N→Int)(hcf: ∀x y:Fin N,c (es[x.val]'(hN▸x.isLt)) (es[y.val]'(hN▸y.isLt))=some (cf x y)):SWO (ltOf cf):=by
 have mem: ∀x:Fin N,es[x.val]'(hN▸x.isLt)∈es:=fun x=>List.getElem_mem _
 have irr: ∀x,ltOf cf x x=false:=fun x=>by simpa [ltOf]using ht.irr _ (mem x) _ (hcf x x)
 have tr: ∀x y z,ltOf cf x y=true→ltOf cf y z=true→ltOf cf x z=true:=fun x y z h1 h2=>by
  simp only[ltOf,decide_eq_true_eq]at*
  exact ht.tr _ (mem x) _ (mem y) _ (mem z) _ _ _ (hcf x y) (hcf y z) (hcf x z) h1 h2
 refine⟨irr,tr,fun x y z h1 h2=> ?_⟩
 cases h3:ltOf cf x z with
 |false=>rfl
 |true=>
   cases h4:ltOf cf y x with
   |true=>rw[tr y x z h4 h3]at h2;cases h2
   |false=>
     simp only[ltOf,decide_eq_false_iff_not]at h1 h4
     have:=ht.tot _ (mem x) _ (mem y) _ _ (hcf x y) (hcf y x) h1 h4
     have hc:=hcf x z
     rw[this,hcf y z]at hc
     have hc':=Option.some.inj hc
     simp only[ltOf,decide_eq_false_iff_not,decide_eq_true_eq]at h2 h3
     exact absurd (hc'▸h3) h2
theorem cmpV_den {T0:Tab} {agg:Bool} {g:FuncId} {cap:List V} {x y:List V} {n:Int}(h:cmpV T0 agg g cap x y=some n): ∃s',den T0 g ((if agg then [.agg x, .agg y]else x ++y) ++cap) 0 []=some (.int .i64 n,s'):=by
 unfold cmpV at h
 split at h
 ·rename_i m s' hd
  cases h
  exact⟨s',hd⟩
 ·cases h
theorem world_one {w:World} {b m:Nat} {c:Array Value} {N:Nat} [Inhabited (Fin N)] {dk:Array (Fin N)} {os:Array Obj}:sortWorld (fun i:Fin N=>c[i.val]!) w b 0 m dk os=turned w b 1 m c dk os:=by
 unfold sortWorld turned putRow
 congr 2
 unfold putCells
 funext c'
 congr 1
 funext k x
 simp only[size_flatK,Nat.mul_one,Nat.zero_add,Nat.zero_le,true_and,Nat.sub_zero,id]
 split
 ·rename_i h
  rw[get_flatK _ _ _ _ (by omega)]
  simp[encF,Nat.mod_one]
 ·rfl
theorem sortF1_ok {P:Program} {ρ:Shelf.Ren}(hm:P.follows .mixedOrders=true)(Ly:SlLaysF.n6 P ρ) {T0:Tab}(tab:TabOk P T0):PrimOk P (ρ.f 6,sortFP T0 false):=by
 intro args lab s v s' h
 obtain⟨d,l,sz,g,cap,x0,es,r,rfl,hg,hrow,h1,h2,h3,h4,h5,h6,h7,rfl,rfl⟩:=sortFP_inv h
 refine⟨Ly.f6.enters rfl,fun w γ us hl hS=> ?_⟩
 obtain⟨b,k,c,e,cb,rfl,R,hcap⟩:=sort_args hS hg hrow h2 hl
 cases h1 rfl
 obtain⟨N,hN⟩: ∃N,N=es.length:=⟨_,rfl⟩
 have hpos:0<N:=by rw[hN];exact List.length_pos_iff.2 h2
 letI:Inhabited (Fin N):=⟨⟨0,hpos⟩⟩
 have hmem: ∀x:Fin N,es[x.val]'(hN▸x.isLt)∈es:=fun x=>List.getElem_mem _
 have hex: ∀x y:Fin N,∃n,cmpV T0 false g cap (es[x.val]'(hN▸x.isLt)) (es[y.val]'(hN▸y.isLt))=some n:=fun x y=>h6.some _ (hmem x) _ (hmem y)
 let cf:Fin N→Fin N→Int:=fun x y=>Classical.choose (hex x y)
 have hcf: ∀x y:Fin N,cmpV T0 false g cap (es[x.val]'(hN▸x.isLt)) (es[y.val]'(hN▸y.isLt))=some (cf x y):=fun x y=>Classical.choose_spec (hex x y)
 let d0:Array (Fin N):=(List.finRange N).toArray
 have hd0:d0.size=N:=by simp[d0]
 have hO:=swo_of hN h6 cf hcf
 have hone:OneCell (fun i:Fin N=>c[i.val]!):=fun i=>by
  have:=(turned_vr (m:=0) (dk:=d0) (os:= #[]) R h4 hN i).one (fun v hv=>(elemAll_mem (h4 _ (hmem i)) v hv).2)
  exact this _ (by simp[encF])
 have hcmp:CmpLays1 P g cb (fun i:Fin N=>c[i.val]!) cf b 0 d0.size w:=by
  intro m os dk _ x y
  rw[world_one]
  obtain⟨s',hd⟩:=cmpV_den (hcf x y)
  have lx:=turned_vr (m:=m) (dk:=dk) (os:=os) R h4 hN x
  have ly:=turned_vr (m:=m) (dk:=dk) (os:=os) R h4 hN y
  have lc:LR 0 (turned w b 1 m c dk os) γ0 cap cb.toList:=⟨hcap.1,fun i v u hv hu=>
   ((hcap.2 i v u hv hu).ext (turned_ext (m:=m) (dk:=dk) (os:=os) R)).pureOwn (fun b off h=>(own0 h).elim) 0 (pureAll_mem h5 v (List.mem_of_getElem? hv))⟩
  have:=den_pure hm tab hd ((R.sr.glob.ext (turned_ext (m:=m) (dk:=dk) (os:=os) R)).less fun b off h=>(own0 h).elim) ((lx.append ly).append lc)
  have e1:(encF 1 c N x ++encF 1 c N y ++cb.toList).toArray= #[c[x.val]!,c[y.val]!] ++cb:=by
   apply Array.toList_inj.1
   simp[encF]
  rw[e1]at this
  exact this
 have hH:Holds (fun i:Fin N=>c[i.val]!) w b 0 d0:=by
  have:=turned_holds (dk:=d0) R hN hd0 (by intro i hi;simp[d0])
  intro j hj
  have:=this j (by simpa using hj)
  rw[get_flatK _ _ _ _ (by simpa using hj)]at this
  simpa [encF,Nat.mod_one]using this
 have hbs:b<w.heap.size:=(Array.getElem?_eq_some_iff.1 R.heap).1
 have eg: ∀args w,(callFunc g args).run P w= .ok (.enter g args) w:=by
  obtain⟨s',hd⟩:=cmpV_den (hcf ⟨0,hpos⟩ ⟨0,hpos⟩)
  exact(den_sound hm tab hd).1
 have hC:=Any.slices_SortFunc Ly (fun i:Fin N=>c[i.val]!) hone cf hO g cb b 0 k d0 w eg hcmp hH hbs (by rw[hd0,hN];exact h3)
 rw[hd0]at hC
 rw[←hN]
 refine hC.mono ?_
 rintro en w' ⟨rfl,d',n,os,hp,hs,rfl⟩
 obtain⟨hd',hsorted⟩:=perm_sorted hN cf hcf (by simp[d0]) hp hs
 have hr:=SortedBy.unique h6 h7 hsorted
 rw[world_one]
 obtain⟨γ',e1,e2⟩:=turned_sr (m:=n) (os:=os) R h4 hN hd' hg hrow
 exact⟨.tuple #[],γ',rfl, .tup [] #[] rfl (by simp),by rw[hr];exact e1,e2,sput_length _ _ _ _⟩
end Go.Ab

/-
  slices.Sort at []int by the library's own contract: what it does to an array that the evaluator keeps.
-/
namespace Go.Ab
open Go.Proofs Go.Sort Go.Shelf
def intOf:List V→Option Int
 |[.int .i64 n]=>some n
 |_=>none
def rowInts:List (List V)→Option (List Int)
 |[]=>some []
 |x::r=>match intOf x,rowInts r with
   |some n,some l=>some (n::l)
   |_,_=>none
def cellInt(n:Int):List V:=[.int .i64 n]
theorem rowInts_map: ∀l:List Int,rowInts (l.map cellInt)=some l
 |[]=>rfl
 |n::l=>by simp only[List.map_cons,rowInts,rowInts_map l,cellInt,intOf]
theorem intOf_some {x:List V} {n:Int}(h:intOf x=some n):x=cellInt n:=by
 unfold intOf at h
 split at h
 ·cases h;rfl
 ·cases h
theorem rowInts_some: ∀ {es:List (List V)} {l:List Int},rowInts es=some l→es=l.map cellInt
 |[],l,h=>by cases h;rfl
 |x::r,l,h=>by
   simp only[rowInts]at h
   split at h
   ·rename_i n l' h1 h2
    cases h
    rw[List.map_cons,intOf_some h1,←rowInts_some h2]
   ·cases h
def sortedI(l:List Int):List Int:=l.mergeSort fun x y=>decide (x≤y)
def sortP:List V→Nat→Stk→Option (V×Stk)
 |[.asl d l sz q o n],_,s=>match sget s d l with
   |some (.arr z es)=>if z=1∧sz=1∧q=es.length∧o=0∧n=es.length∧es≠[]∧es.length<4611686018427387904 then
    match rowInts es with
    |some zs=>some (.tup [],sput s d l (.arr 1 ((sortedI zs).map cellInt)))
    |none=>none
     else none
   |_=>none
 |_,_,_=>none
theorem sortP_inv {args lab s v s'}(h:sortP args lab s=some (v,s')): ∃d l zs,args=[.asl d l 1 zs.length 0 zs.length]∧sget s d l=some (.arr 1 (zs.map cellInt))∧zs≠[]∧zs.length<4611686018427387904∧v= .tup []∧s'=sput s d l (.arr 1 ((sortedI zs).map cellInt)):=by
 unfold sortP at h
 split at h
 ·rename_i _ s d l sz q o n
  split at h
  ·rename_i z es hg
   split at h
   ·rename_i hc
    obtain⟨rfl,rfl,rfl,rfl,rfl,h6,h7⟩:=hc
    split at h
    ·rename_i zs hz
     cases h
     have:=rowInts_some hz
     subst this
     exact⟨d,l,zs,by simp,hg,by simpa using h6,by simpa using h7,rfl,rfl⟩
    ·cases h
   ·cases h
  ·cases h
 ·cases h
theorem sortP_ok {P:Program} {ρ:Shelf.Ren}(Ly:Lays.n189 P ρ): ∀args lab s v s',sortP args lab s=some (v,s')→Enters P (ρ.f 189)∧
 ∀w γ us,LR s.length w γ args us→SR (KP P) s w γ→Calls P (ρ.f 189) us.toArray w (CPost (KP P) s w γ v s'):=by
 intro args lab s v s' h
 obtain⟨d,l,zs,rfl,hg,hne,hsz,rfl,rfl⟩:=sortP_inv h
 refine⟨fun args w=> ?_,fun w γ us hl hS=> ?_⟩
 ·simp[callFunc,Ly.f189,Body.n189]
 ·obtain⟨u,rfl⟩: ∃u,us=[u]:=by
   have:=hl.1
   cases us with
   |nil=>simp at this
   |cons u r=>cases r with
     |nil=>exact⟨u,rfl⟩
     |cons _ _=>simp at this
  have hx:=hl.2 0 _ _ rfl rfl
  obtain⟨blk,h1,h0,h2⟩:=hS.ent d l _ hg
  have hlen:(zs.map cellInt).length=zs.length:=by simp
  rw[hlen]at h1
  have hpos:0<zs.length:=List.length_pos_iff.2 hne
  generalize hN:zs.length=N at hx
  cases hx with
  |aslnil=>omega
  |aslold _ _ _ _ _ _ N' _ _ _ _ hd hb hn=>rw[hb]at h1;cases h1;omega
  |aslh _ _ _ _ _ _ lo N' f hd hb=>rw[hb]at h1;cases h1
  |aslho _ _ _ _ _ _ lo N' sz' f _ _ _ hd hb=>rw[hb]at h1;cases h1
  |asl _ _ _ _ _ _ b k hd hb hle hk=>
    subst hN
    rw[hb]at h1;cases h1
    obtain⟨_,c,e,h3,h4,h5,h6,h7,h8⟩:=h2
    simp only[Nat.mul_one]at h5
    have hbs:b<w.heap.size:=(Array.getElem?_eq_some_iff.1 h3).1
    have hcell: ∀j (hj:j<zs.length),c[j]? =some (.int .i64 zs[j]):=by
     intro j hj
     have hjc:j<c.size:=by omega
     obtain⟨u,hu⟩: ∃u,c[j]? =some u:=⟨c[j],Array.getElem?_eq_getElem hjc⟩
     have:=h8 j (cellInt zs[j]) 0 (.int .i64 zs[j]) u (by simp[hj]) rfl (by simpa using hu)
     cases this
     exact hu
    have hH:Holds (Value.int .i64) w b 0 zs.toArray:=by
     intro j hj
     have hj':j<zs.length:=by simpa using hj
     refine⟨?_,?_⟩
     ·simp only[World.cell?,h3,Nat.zero_add,hcell j hj']
      simp[hj']
     ·simp[World.frozen?,h3]
    have hC:=calls_of_every_depth fun D=>AnyS.slices_Sort_int_in Ly D b 0 k zs w hH hbs hsz
    simp only[Nat.zero_mul,Nat.sub_zero]at hC⊢
    refine hC.mono ?_
    rintro en w' ⟨rfl,m,os,rfl⟩
    change CPost (KP P) s w γ (.tup []) (sput s d l (.arr 1 ((sortedI zs).map cellInt))) _ (grow (putRow (Value.int .i64) (Go.Sort.ahead w m) b 0 (sortedI zs).toArray) os)
    obtain⟨D,hD⟩: ∃D,D=sortedI zs:=⟨_,rfl⟩
    rw[←hD]
    have hDl:D.length=zs.length:=by rw[hD,sortedI,List.length_mergeSort]
    obtain⟨w',hw'⟩: ∃w',w'=grow (putRow (Value.int .i64) (Go.Sort.ahead w m) b 0 D.toArray) os:=⟨_,rfl⟩
    rw[←hw']
    have hsame: ∀b',b'<w.heap.size→b'≠b→w'.heap[b']? =w.heap[b']? :=by
     intro b' h1 h2
     rw[hw',heap_grow_old _ _ (by simpa [putRow,mapBlock,Go.Sort.ahead]using h1)]
     simp[putRow,mapBlock,Go.Sort.ahead,Array.getElem?_modify,Ne.symm h2]
    have hblk:w'.heap[b]? =some (.cells (putCells (Value.int .i64) 0 D.toArray c) e (0,0)):=by
     rw[hw',heap_grow_old _ _ (by simpa [putRow,mapBlock,Go.Sort.ahead]using hbs)]
     simp[putRow,mapBlock,Go.Sort.ahead,Array.getElem?_modify,h3,onCells]
    have hsize:w.heap.size≤w'.heap.size:=by rw[hw'];simp[putRow,mapBlock,Go.Sort.ahead]
    have hnew: ∀j (hj:j<D.length),(putCells (Value.int .i64) 0 D.toArray c)[j]? =some (.int .i64 D[j]):=by
     intro j hj
     have hjc:j<c.size:=by omega
     simp[putCells,hjc,hj]
    have hown: ∀o,Own γ b o:=fun o=>⟨d,l,_,hb,rfl⟩
    have hx:Ext s.length w γ w' γ:=
     { os := by rw [hw']; rfl
       tape:=by rw[hw'];rfl
       output:=by rw[hw'];rfl
       size:=hsize
       drawn:=by rw[hw'];exact Nat.le_add_right _ _
       cell:=fun _ _ _ _ h=>h
       obj:=fun _ _ _ _ h=>h
       arr:=fun _ _ n blk _ h=>⟨n,blk,h, .inl ⟨rfl,rfl⟩⟩
       harr:=fun _ _ lo N _ f _ h=>⟨lo,N,f,h,Nat.le_refl _,Nat.le_refl _,fun _ _ _=>rfl⟩
       tok:=fun _ _ n blk _ h=>⟨n,blk,h, .inl ⟨rfl,rfl⟩⟩
       keep:=fun b' off u hu hno=>by
        have hne':b'≠b:=fun h=>hno (h▸hown off)
        have hlt:b'<w.heap.size:=by
         apply Nat.lt_of_not_le
         intro hle
         simp[World.cell?,Array.getElem?_eq_none hle]at hu
        simp only[World.cell?,hsame b' hlt hne']at hu⊢
        exact hu
       free:=fun _ _ _ h=>h
       block:=fun b' hlt hno=>hsame b' hlt (fun h=>hno 0 (h▸hown 0))
       frn:=fun _=>rfl
       fheap:=fun l' g b' hg' hb'=>hsame b' (hS.frn l' g b' hg' hb') (fun h=>hS.notfrn hb rfl l' g hg' (h▸hb'))}
    refine⟨.tuple #[],γ,rfl, .tup [] #[] rfl (by simp),?_,hx,sput_length _ _ _ _⟩
    have hset:γ.set d l (.arr zs.length (some (b,1,k)))=γ:=set_self hb
    refine hS.step (g:= .arr zs.length (some (b,1,k))) (hS.lt hb) hx hset.symm ⟨some (b,1,k),by rw[List.length_map,hDl];exact hb,?_,rfl,_,e,hblk,by rw[List.length_map,hDl];simpa using h4,by simpa [putCells]using h5,h6,h7,?_⟩ ?_ ?_
    ·intro cs hcs
     obtain⟨x,_,rfl⟩:=List.mem_map.1 hcs
     rfl
    ·intro i cs j v u k1 k2 k3
     simp only[List.getElem?_map,Option.map_eq_some_iff]at k1
     obtain⟨x,k1,rfl⟩:=k1
     have hi:i<D.length:=(List.getElem?_eq_some_iff.1 k1).1
     have hxi:D[i]=x:=(List.getElem?_eq_some_iff.1 k1).2
     cases j with
     |succ j=>simp[cellInt]at k2
     |zero=>
       simp only[Nat.mul_one,Nat.add_zero]at k3
       rw[hnew i hi]at k3
       cases k3
       simp only[cellInt,List.getElem?_cons_zero,Option.some.injEq]at k2
       subst k2
       rw[hxi]
       exact .int _ _
    ·intro d' l' g' b1 hne' hg' hb1
     refine hsame b1 (hS.blk_lt hg' hb1) ?_
     ·rintro rfl
      exact hne' (hS.inj d' l' g' d l _ b1 hg' hb hb1 rfl)
    ·intro b1 hb1 d' l' g' hne' hg' hb'
     simp[GE.blk]at hb1;subst hb1
     exact hne' (hS.inj d' l' g' d l _ b hg' hb hb' rfl)
end Go.Ab

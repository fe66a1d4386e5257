/-
  A call is over: the callee's frame goes, what its result names goes to the caller's.
-/
import Derived.Test.YtnglkclmplfnpaaGreatAb4
import Derived.RangeFuncIn
import Derived.RangeFuncRecord
import Derived.OrdersIn
set_option linter.unusedSimpArgs false
set_option linter.unusedVariables false
namespace Go.Ab
theorem idxOf_inj {ls:List Nat} {a b:Nat}(ha:a∈ls)(hb:b∈ls)(h:idxOf a ls=idxOf b ls):a=b:=by
 induction ls with
 |nil=>cases ha
 |cons x r ih=>
   simp only[idxOf]at h
   split at h
   ·rename_i h1
    split at h
    ·rename_i h2;rw[h1,h2]
    ·omega
   ·rename_i h1
    split at h
    ·omega
    ·rename_i h2
     refine ih ?_ ?_ (by omega)
     ·cases ha with
      |head=>exact absurd rfl h1
      |tail _ h=>exact h
     ·cases hb with
      |head=>exact absurd rfl h2
      |tail _ h=>exact h
theorem newLab_inj {ls:List Nat} {a b lab:Nat}(ha:a∈ls)(hb:b∈ls)(h:newLab lab a ls=newLab lab b ls):a=b:=by
 unfold newLab at h
 exact idxOf_inj ha hb (by omega)
theorem dep_sput(s:Stk)(d l:Nat)(x:Entry):dep (sput s d l x)=dep s:=by simp[dep]
theorem adoptAll_spec {own:Bool} {d:Nat} {ls:List Nat} {loc:Loc} {lab:Nat}: ∀ {r:List Nat} {s s':Stk},(∀l∈r,l∈ls)→s≠[]→adoptAll own d ls loc lab r s=some s'→
 s'.length=s.length∧(∀l∈r,∃x,loc.get l=some x∧x.goes own=true∧sget s (dep s) (newLab lab l ls)=none∧sget s' (dep s) (newLab lab l ls)=some (x.map (renR own d loc ls (dep s) lab)))∧
 ∀d' l',(¬(d'=dep s∧ ∃l∈r,l'=newLab lab l ls))→sget s' d' l'=sget s d' l'
 |[],s,s',_,_,h=>by simp[adoptAll]at h;subst h;simp
 |l::r,s,s',hm,hs,h=>by
   simp only[adoptAll]at h
   split at h
   ·rename_i x hx
    split at h
    ·rename_i hc
     simp only[Bool.and_eq_true]at hc
     have hn:sget s (dep s) (newLab lab l ls)=none:=by simpa using hc.2
     have hs1:sput s (dep s) (newLab lab l ls) (x.map (renR own d loc ls (dep s) lab))≠[]:=fun e0=>hs (List.eq_nil_of_length_eq_zero (by rw[←sput_length s (dep s) (newLab lab l ls),e0];rfl))
     obtain⟨h1,h2,h3⟩:=adoptAll_spec (fun l' hl=>hm l' (by simp[hl])) hs1 h
     rw[dep_sput]at h2 h3
     rw[sput_length]at h1
     have hlt:dep s<s.length:=by have:=dep_succ hs;omega
     have hnr:l∉r:=by
      intro hr
      obtain⟨_,_,_,h4,_⟩:=h2 l hr
      rw[sget_put_same _ _ _ hlt]at h4
      cases h4
     refine⟨h1,?_,?_⟩
     ·intro l' hl'
      cases hl' with
      |head=>
        refine⟨x,hx,hc.1,hn,?_⟩
        rw[h3 _ _ (by
         rintro⟨_,l',hl',e⟩
         exact hnr (by rw[newLab_inj (hm l (by simp)) (hm l' (by simp[hl'])) e];exact hl')),sget_put_same _ _ _ hlt]
      |tail _ hl'=>
        obtain⟨y,k1,k2,k3,k4⟩:=h2 l' hl'
        refine⟨y,k1,k2,?_,k4⟩
        rw[sget_put_other]at k3
        ·exact k3
        ·rintro⟨_,e⟩
         exact hnr (by rw[newLab_inj (hm l (by simp)) (hm l' (List.mem_cons_of_mem _ hl')) e.symm];exact hl')
     ·intro d' l' hne
      rw[h3 d' l' (by rintro⟨e,l2,hl2,e2⟩;exact hne ⟨e,l2,by simp[hl2],e2⟩),sget_put_other _ _ (by rintro⟨e,e2⟩;exact hne ⟨e,l,by simp,e2⟩)]
    ·cases h
   ·cases h
section
variable {K : KK} {s : Stk} {w : World} {γ : G} {own : Bool} {loc : Loc} {lab : Nat} {ls : List Nat}
def G.pop(γ:G)(n:Nat)(ls:List Nat)(lab:Nat):G:=fun d' l=>match d' with
 |none=>γ none l
 |some d=>if d<n then(match γ d l with
   |some g=>some g
   |none=>if d=n-1 then(match ls.find? fun k=>newLab lab k ls==l with
     |some k=>γ n k
     |none=>none)else none)
 else none
theorem pop_old {n:Nat} {d l:Nat} {g:GE}(hd:d<n)(h:γ d l=some g):γ.pop n ls lab d l=some g:=by
 simp[G.pop,hd,h]
theorem pop_new {n:Nat}(hn:0<n) {l:Nat}(hl:l∈ls)(h:γ (some (n-1)) (newLab lab l ls)=none):γ.pop n ls lab (some (n-1)) (newLab lab l ls)=γ n l:=by
 simp only[G.pop]
 rw[if_pos (by omega),h]
 simp only[if_true]
 cases hf:ls.find? fun k=>newLab lab k ls==newLab lab l ls with
 |none=>exact absurd (List.find?_eq_none.1 hf l hl) (by simp)
 |some k=>
   have h1:=List.find?_some hf
   have h2:=List.mem_of_find?_eq_some hf
   rw[newLab_inj h2 hl (by simpa using h1)]
theorem pop_from {n:Nat} {d:Option Nat} {l:Nat} {g:GE}(h:γ.pop n ls lab d l=some g):((∀d',d=some d'→d'<n)∧γ d l=some g)∨(d=some (n-1)∧0<n∧ ∃k,k∈ls∧newLab lab k ls=l∧γ n k=some g):=by
 cases d with
 |none=>exact .inl ⟨(fun _ e=>by cases e),h⟩
 |some d=>
 simp only[G.pop]at h
 split at h
 ·rename_i hd
  split at h
  ·rename_i g' hg;cases h;exact .inl ⟨(fun d' e=>by cases e;exact hd),hg⟩
  ·split at h
   ·rename_i hd'
    split at h
    ·rename_i k hf
     exact .inr ⟨by rw[hd'],by omega,k,List.mem_of_find?_eq_some hf,by simpa using List.find?_some hf,h⟩
    ·cases h
   ·cases h
 ·cases h
theorem own_pop {n:Nat}: ∀b off,Own (γ.pop n ls lab) b off→Own γ b off:=by
 rintro b off ⟨d,l,g,h1,h2⟩
 rcases pop_from h1 with ⟨_,h⟩|⟨_,_,k,_,_,h⟩
 ·exact⟨d,l,g,h,h2⟩
 ·exact⟨n,k,g,h,h2⟩
theorem pop_ok(hS:SR K (loc::s) w γ)(hs:s=[]→ls=[]) {s':Stk}(hlen:s'.length=s.length)
 (h1: ∀l∈ls,∃x,loc.get l=some x∧x.goes own=true∧sget s (dep s) (newLab lab l ls)=none∧sget s' (dep s) (newLab lab l ls)=some (x.map (renR own s.length loc ls (dep s) lab)))
 (h2: ∀d' l',(¬(d'=dep s∧ ∃l∈ls,l'=newLab lab l ls))→sget s' d' l'=sget s d' l'):
 RenOk (renR own s.length loc ls (dep s) lab) (s.length+1) w γ s.length (γ.pop s.length ls lab)∧SR K s' w (γ.pop s.length ls lab):=by
 have hdep:dep s=s.length-1:=rfl
 have hlow: ∀ {d l},d<s.length→sget (loc::s) d l=sget s d l:=fun h=>by simp only[sget];rw[if_neg (by omega)]
 have hpos: ∀ {l},l∈ls→0<s.length:=fun hl=>by
  cases s with
  |nil=>rw[hs rfl]at hl;cases hl
  |cons _ _=>simp
 have hnew: ∀ {l},l∈ls→γ.pop s.length ls lab (dep s) (newLab lab l ls)=γ s.length l:=fun {l} hl=>by
  obtain⟨x,_,_,k3,_⟩:=h1 l hl
  refine pop_new (hpos hl) hl (hS.none _ _ ?_)
  rw[hlow (by have:=hpos hl;omega)];exact k3
 have ok:RenOk (renR own s.length loc ls (dep s) lab) (s.length+1) w γ s.length (γ.pop s.length ls lab):=
  { p := fun a l o u h => by
     simp only[renR]
     cases h with
     |ptr _ _ _ b hd hb=>
       split
       ·rename_i ha
        subst ha
        split
        ·rename_i hl
         have hl:l∈ls:=by simpa using hl
         exact .ptr _ _ _ b (by have:=hpos hl;omega) ((hnew hl).trans hb)
        ·exact .undef _
       ·rename_i ha
        exact .ptr _ _ _ b (by omega) (pop_old (by omega) hb)
    c:=fun c sz base len cap h=>by
     simp only[renR]
     split
     ·cases c with
      |no=>trivial
      |full=>exact h
      |own a l=>
        simp only[Cap.ren]
        obtain⟨hd,n,blk,k1,k2⟩:=h
        split
        ·rename_i ha
         subst ha
         split
         ·rename_i hl
          have hl:l∈ls:=by simp only[Bool.and_eq_true]at hl;simpa using hl.2
          exact⟨by have:=hpos hl;omega,n,blk,(hnew hl).trans k1,k2⟩
         ·trivial
        ·rename_i ha
         exact⟨by omega,n,blk,pop_old (by omega) k1,k2⟩
     ·trivial
    y:=fun a l u h=>by
     simp only[renR]
     cases h with
     |yld _ _ b hd hb=>
       split
       ·exact .undef _
       ·rename_i ha
        exact .yld _ _ b (by omega) (pop_old (by omega) hb)
    a:=fun a l z n o k u h=>by
     simp only[renR]
     split
     ·rename_i ha
      subst ha
      split
      ·split
       ·rename_i hl
        have hl:l∈ls:=by simpa using hl
        cases h with
        |asl _ _ _ _ _ _ b k hd hb hle hk=>exact .asl _ _ _ _ _ _ b k (by have:=hpos hl;omega) ((hnew hl).trans hb) hle hk
        |aslnil _ _ _ base hd hb=>exact .aslnil _ _ _ base (by have:=hpos hl;omega) ((hnew hl).trans hb)
        |aslold _ _ _ _ _ _ N blk base ln cp hd hb hn2=>exact .aslold _ _ _ _ _ _ N blk base ln cp (by have:=hpos hl;omega) ((hnew hl).trans hb) hn2
        |aslh _ _ _ _ _ _ lo N f hd hb hn2 hle hk=>exact .aslh _ _ _ _ _ _ lo N f (by have:=hpos hl;omega) ((hnew hl).trans hb) hn2 hle hk
        |aslho _ _ _ _ _ _ lo N sz' f base ln cp hd hb hn2=>exact .aslho _ _ _ _ _ _ lo N sz' f base ln cp (by have:=hpos hl;omega) ((hnew hl).trans hb) hn2
       ·exact .undef _
      ·rename_i hown
       split
       ·rename_i sz es hl
        split
        ·rename_i hc
         obtain⟨hz,hq,hn,hok⟩:=hc
         refine arr_frozen hS h (by simp[sget,hl]) hok hq hn own_pop ?_ (fun _ _ _ _=>trivial) hz
         rintro b sz' k hb j _ ⟨d1,l1,g1,k1,k2⟩
         have kb:=GE.owns_blk k2
         rcases pop_from k1 with ⟨hd1,h3⟩|⟨_,_,k',hk',_,h3⟩
         ·have:=(hS.inj d1 l1 g1 s.length l _ b h3 hb kb rfl).1;exact absurd (hd1 _ this) (Nat.lt_irrefl _)
         ·have:=(hS.inj s.length k' g1 s.length l _ b h3 hb kb rfl).2
          subst this
          obtain⟨x,hx,hg,_⟩:=h1 k' hk'
          rw[hl]at hx;cases hx
          simp[Entry.goes]at hg
          exact hown hg
        ·exact .undef _
       ·exact .undef _
     ·rename_i ha
      cases h with
      |asl _ _ _ _ _ _ b k hd hb hle hk=>exact .asl _ _ _ _ _ _ b k (by omega) (pop_old (by omega) hb) hle hk
      |aslnil _ _ _ base hd hb=>exact .aslnil _ _ _ base (by omega) (pop_old (by omega) hb)
      |aslold _ _ _ _ _ _ N blk base ln cp hd hb hn2=>exact .aslold _ _ _ _ _ _ N blk base ln cp (by omega) (pop_old (by omega) hb) hn2
      |aslh _ _ _ _ _ _ lo N f hd hb hn2 hle hk=>exact .aslh _ _ _ _ _ _ lo N f (by omega) (pop_old (by omega) hb) hn2 hle hk
      |aslho _ _ _ _ _ _ lo N sz' f base ln cp hd hb hn2=>exact .aslho _ _ _ _ _ _ lo N sz' f base ln cp (by omega) (pop_old (by omega) hb) hn2
    e:=fun a l n i j u h=>by
     simp only[renR]
     split
     ·exact .undef _
     ·cases h with
      |eptr _ _ _ _ _ b sz k hd hb=>exact .eptr _ _ _ _ _ b sz k (by omega) (pop_old (by omega) hb)
      |eptrold _ _ _ _ _ N blk p hd hb hn2=>exact .eptrold _ _ _ _ _ N blk p (by omega) (pop_old (by omega) hb) hn2
      |eptrh _ _ _ _ _ sz lo N f hd hb hn2=>exact .eptrh _ _ _ _ _ sz lo N f (by omega) (pop_old (by omega) hb) hn2
      |eptrho _ _ _ _ _ lo N sz' f p hd hb hn2=>exact .eptrho _ _ _ _ _ lo N sz' f p (by omega) (pop_old (by omega) hb) hn2
    own:=own_pop}
 refine⟨ok,⟨fun d l x hx=> ?_,fun d l hx=> ?_,?_,hS.frn⟩⟩
 ·by_cases e:d=dep s∧ ∃k∈ls,l=newLab lab k ls
  ·obtain⟨rfl,k,hk,rfl⟩:=e
   obtain⟨y,k1,k2,k3,k4⟩:=h1 k hk
   rw[k4]at hx
   cases hx
   have he:=hS.ent s.length k y (by simp[sget,k1])
   have hp:=hpos hk
   have hd1:dep s+1=s.length:=by omega
   exact EnR.map he (by rw[hd1];exact ok) (fun g hg=>(hnew hk).trans hg)
  ·rw[h2 d l e]at hx
   have hlt:=sget_lt hx
   have he:=hS.ent d l x (by rw[hlow hlt];exact hx)
   exact he.restrict (fun d' l' g hd' hg=>pop_old (by omega) hg) own_pop
 ·cases hp:γ.pop s.length ls lab d l with
  |none=>rfl
  |some g=>
    exfalso
    rcases pop_from hp with ⟨hd,hg⟩|⟨hd,hpos',k,hk,rfl,hg⟩
    ·by_cases e:d=dep s∧ ∃k∈ls,l=newLab lab k ls
     ·obtain⟨rfl,k,hk,rfl⟩:=e
      obtain⟨y,_,_,_,k4⟩:=h1 k hk
      rw[k4]at hx;cases hx
     ·rw[h2 d l e]at hx
      have:=hS.none d l (by rw[hlow (hd d rfl)];exact hx)
      rw[this]at hg;cases hg
    ·obtain⟨y,_,_,_,k4⟩:=h1 k hk
     cases hd
     rw[←hdep,k4]at hx;cases hx
 ·intro d1 l1 g1 d2 l2 g2 b k1 k2 b1 b2
  rcases pop_from k1 with ⟨hd1,q1⟩|⟨hd1,hp1,m1,hm1,rfl,q1⟩
  ·rcases pop_from k2 with ⟨hd2,q2⟩|⟨hd2,hp2,m2,hm2,rfl,q2⟩
   ·exact hS.inj d1 l1 g1 d2 l2 g2 b q1 q2 b1 b2
   ·have:=(hS.inj d1 l1 g1 s.length m2 g2 b q1 q2 b1 b2).1;exact absurd (hd1 _ this) (Nat.lt_irrefl _)
  ·rcases pop_from k2 with ⟨hd2,q2⟩|⟨hd2,hp2,m2,hm2,rfl,q2⟩
   ·have:=(hS.inj s.length m1 g1 d2 l2 g2 b q1 q2 b1 b2).1;exact absurd (hd2 _ this.symm) (Nat.lt_irrefl _)
   ·have:=(hS.inj _ m1 g1 _ m2 g2 b q1 q2 b1 b2).2
    subst this
    exact⟨hd1.trans hd2.symm,rfl⟩
theorem pop_ext(ls:List Nat)(lab:Nat) {w0:World} {γ0:G} {n:Nat}(hx:Ext n w0 γ0 w γ):Ext n w0 γ0 w (γ.pop n ls lab):=
 ⟨hx.os,hx.tape,hx.output,hx.size,hx.drawn,fun d l b hd hb=>pop_old hd (hx.cell d l b hd hb),fun d l b hd hb=>pop_old hd (hx.obj d l b hd hb),fun d l n blk hd hb=>by obtain⟨n',blk',h1,h2⟩:=hx.arr d l n blk hd hb;exact⟨n',blk',pop_old hd h1,h2⟩,
  fun d l lo N sz f hd hb=>by obtain⟨lo',N',f',h1,h2⟩:=hx.harr d l lo N sz f hd hb;exact⟨lo',N',f',pop_old hd h1,h2⟩,
  fun d l n blk hd hb=>by obtain⟨n',blk',h1,h2⟩:=hx.tok d l n blk hd hb;exact⟨n',blk',pop_old hd h1,h2⟩,hx.keep,fun b off hlt hno ho=>hx.free b off hlt hno (own_pop b off ho),hx.block,fun l=>hx.frn l,hx.fheap⟩
theorem adopt_ok(hS:SR K (loc::s) w γ) {r v:V} {u:Value}(hr:VR (s.length+1) w γ r u) {s':Stk}(h:adopt own loc r lab s=some (v,s')):
 ∃γ',VR s'.length w γ' v u∧SR K s' w γ'∧s'.length=s.length∧ ∀w0 γ0,Ext s.length w0 γ0 w γ→Ext s.length w0 γ0 w γ':=by
 have ext: ∀(ls:List Nat) w0 γ0,Ext s.length w0 γ0 w γ→Ext s.length w0 γ0 w (γ.pop s.length ls lab):=fun ls w0 γ0 hx=>pop_ext ls lab hx
 unfold adopt at h
 split at h
 ·cases h
  obtain⟨ok,hS'⟩:=pop_ok (own:=own) (lab:=lab) (ls:=[]) hS (fun _=>rfl) rfl (by simp) (fun _ _ _=>rfl)
  exact⟨_,VR.map' ok _ _ hr,hS',rfl,ext []⟩
 ·rename_i ls _
  split at h
  ·cases h
  ·rename_i hemp
   obtain⟨s1,h1,h2⟩:=Option.map_eq_some_iff.1 h
   cases h2
   have hs:s≠[]:=by simpa using hemp
   obtain⟨k1,k2,k3⟩:=adoptAll_spec (fun _ h=>h) hs h1
   obtain⟨ok,hS'⟩:=pop_ok hS (fun e=>absurd e hs) k1 k2 k3
   refine⟨_,?_,hS',k1,ext _⟩
   rw[k1]
   exact VR.map' ok _ _ hr
end
end Go.Ab

/-
  'exec' is right, of code: all but a call's entry.
-/
namespace Go.Ab
def Ex.out:Ex→Exit
 | .normal=> .normal
 | .exit id=> .exit id
 | .ret=> .ret
def KP(P:Program):KK:=fun ps A B _ N tps assign body=>
 tps.toList=ps∧(∃ann a1,comp P N assign ann=some (A,a1))∧(∃ann a2,comp P N body ann=some (B,a2))∧noRng assign=true∧noRng body=true∧ ∀t∈ps,t<N
def Marks(w0:Nat)(γ:G)(ds:List Deferred)(w:World):Prop:=
 (ds.map (·.target)).Nodup∧ ∀d∈ds,∃r,d.target= .collected r∧w0≤r∧w.heap[r]? =some (.deferred (some []))∧ ∀off,¬Own γ r off
theorem Marks.ext {w0:Nat} {γ γ':G} {ds:List Deferred} {w w':World} {D:Nat}(h:Marks w0 γ ds w)(x:Ext D w γ w' γ'):Marks w0 γ' ds w':=by
 refine⟨h.1,fun d hd=> ?_⟩
 obtain⟨r,h1,h2,h3,h4⟩:=h.2 d hd
 have hlt:r<w.heap.size:=(Array.getElem?_eq_some_iff.1 h3).1
 exact⟨r,h1,h2,(x.block r hlt h4).trans h3,fun off=>x.free r off hlt (h4 off)⟩
theorem Marks.own {w0:Nat} {γ γ':G} {ds:List Deferred} {w:World}(h:Marks w0 γ ds w)(own: ∀b off,Own γ' b off→Own γ b off):Marks w0 γ' ds w:=by
 refine⟨h.1,fun d hd=> ?_⟩
 obtain⟨r,h1,h2,h3,h4⟩:=h.2 d hd
 exact⟨r,h1,h2,h3,fun off ho=>h4 off (own _ _ ho)⟩
def CodePost(K:KK)(N w0 D L:Nat)(w:World)(γ:G)(ex:Ex)(e':Env)(s':Stk):Exit→Act→World→Prop:=fun x a' w'=>
 x=ex.out∧ ∃γ',a'.tmps.size=N∧ER s'.length w' γ' e' a'∧SR K s' w' γ'∧Ext D w γ w' γ'∧s'.length=L∧Marks w0 γ' a'.defers w'
structure Pre(P:Program)(N w0:Nat)(e:Env)(s:Stk)(a:Act)(w:World)(γ:G):Prop where
 ne:s≠[]
 size:a.tmps.size=N
 env:ER s.length w γ e a
 stk:SR (KP P) s w γ
 marks:Marks w0 γ a.defers w
 w0:w0≤w.heap.size
def CodeOk(P:Program)(X:Exec):Prop:= ∀N c ann ac ann',comp P N c ann=some (ac,ann')→ ∀e s ex e' s',X ac e s=some (ex,e',s')→
 ∀F,Wide F→(F.round=none∨noRng c=true)→ ∀n w0 w γ a,Pre P N w0 e s a w γ→c.wpIn F n P (CodePost (KP P) N w0 (dep s) s.length w γ ex e' s') a w
def DrawOk(P:Program)(T:Tab)(X:Exec):Prop:= ∀N id ops muts al als live,compOpers P N muts ops ops.toList.zipIdx=some als→presOk ops.toList 0 (Ab.pres ops.toList [])=true→
 ∀e s ex e' s',stepDrawn T X (drawn al als (Ab.pres ops.toList []) als.zipIdx) live e s=some (ex,e',s')→ ∀F,Wide F→ ∀n w0 w γ a,Pre P N w0 e s a w γ→
  (Code.region id ops true).wpIn F n P (CodePost (KP P) N w0 (dep s) s.length w γ ex e' s') a w
section
variable {P : Program} {T : Tab} {N w0 : Nat} {e : Env} {s : Stk} {a : Act} {w : World} {γ : G}
theorem Pre.post(h:Pre P N w0 e s a w γ) {D L:Nat} {wI:World} {γI:G}(hx:Ext D wI γI w γ)(hL:s.length=L)(ex:Ex):CodePost (KP P) N w0 D L wI γI ex e s ex.out a w:=
 ⟨rfl,γ,h.size,h.env,h.stk,hx,hL,h.marks⟩
theorem Pre.ghost(h:Pre P N w0 e s a w γ) {e':Env} {s':Stk}(g:Ghost (KP P) e s a w γ e' s'): ∃γ',Pre P N w0 e' s' a w γ'∧Ext (dep s) w γ w γ'∧s'.length=s.length:=by
 obtain⟨γ',h1,h2,h3,h4,h5⟩:=g
 refine⟨γ',⟨?_,h.size,h1,h2,h.marks.own h5,h.w0⟩,h3,h4⟩
 intro e0
 rw[e0]at h4
 exact h.ne (List.eq_nil_of_length_eq_zero h4.symm)
theorem CodePost.pre {D L:Nat} {wI:World} {γI:G} {ex:Ex} {e':Env} {s':Stk} {x:Exit} {a':Act} {w':World}(h:CodePost (KP P) N w0 D L wI γI ex e' s' x a' w')(hL:L≠0)(hw:w0≤wI.heap.size):
 ∃γ',Pre P N w0 e' s' a' w' γ'∧Ext D wI γI w' γ'∧s'.length=L∧x=ex.out:=by
 obtain⟨h0,γ',h1,h2,h3,h4,h5,h6⟩:=h
 exact⟨γ',⟨fun e0=>by rw[e0]at h5;exact hL h5.symm,h1,h2,h3,h6,Nat.le_trans hw h4.size⟩,h4,h5,h0⟩
theorem CodePost.weak {D L:Nat} {wI w1:World} {γI γ1:G} {ex:Ex} {e':Env} {s':Stk} {x:Exit} {a':Act} {w':World}(h:CodePost (KP P) N w0 D L w1 γ1 ex e' s' x a' w')(hx:Ext D wI γI w1 γ1):CodePost (KP P) N w0 D L wI γI ex e' s' x a' w':=by
 obtain⟨h0,γ',h1,h2,h3,h4,h5,h6⟩:=h
 exact⟨h0,γ',h1,h2,h3,hx.trans h4,h5,h6⟩
theorem Pre.len(h:Pre P N w0 e s a w γ):s.length≠0:=fun e0=>h.ne (List.eq_nil_of_length_eq_zero e0)
theorem ghosts_ok: ∀(gs:List Gh) {c:AC} {n:Nat} {e:Env} {s:Stk} {γ:G} {r:Ex×Env×Stk},exec T n (ghosts gs c) e s=some r→Pre P N w0 e s a w γ→
 ∃e1 s1 m γ1,m≤n∧exec T m c e1 s1=some r∧Pre P N w0 e1 s1 a w γ1∧Ext (dep s) w γ w γ1∧s1.length=s.length
 |[],c,n,e,s,γ,r,h,hp=>⟨e,s,n,γ,Nat.le_refl _,h,hp,Ext.refl _ _ _,rfl⟩
 |g::gs,c,n,e,s,γ,r,h,hp=>by
   cases n with
   |zero=>cases g<;>cases h
   |succ n=>
     have key: ∀(ag:AC),exec T (n+1) (.seq ag (ghosts gs c)) e s=some r→(∀m ex e' s',exec T m ag e s=some (ex,e',s')→ex= .normal∧Ghost (KP P) e s a w γ e' s')→
      ∃e1 s1 m γ1,m≤n+1∧exec T m c e1 s1=some r∧Pre P N w0 e1 s1 a w γ1∧Ext (dep s) w γ w γ1∧s1.length=s.length:=by
      intro ag h hg
      simp only[exec,step]at h
      split at h
      ·rename_i e' s' h1
       obtain⟨_,h2⟩:=hg n _ _ _ h1
       obtain⟨γ',p1,p2,p3⟩:=hp.ghost h2
       obtain⟨e1,s1,m,γ1,q1,q2,q3,q4,q5⟩:=ghosts_ok gs h p1
       refine⟨e1,s1,m,γ1,by omega,q2,q3,p2.trans ?_,q5.trans p3⟩
       have:dep s'=dep s:=by simp[dep,p3]
       rwa [this]at q4
      ·rename_i h1
       exfalso
       obtain⟨ex,e',s'⟩:=r
       obtain⟨rfl,_⟩:=hg n _ _ _ h
       exact h1 _ _ h
     cases g with
     |t t l z=>
       refine key (.thaw t l z) h fun m ex e' s' hm=> ?_
       cases m with
       |zero=>cases hm
       |succ m=>exact thaw_ok hp.env hp.stk hm
     |c t off l z=>
       refine key (.thawc t off l z) h fun m ex e' s' hm=> ?_
       cases m with
       |zero=>cases hm
       |succ m=>exact thawc_ok hp.env hp.stk hm
theorem frozen_ok {ls:List Nat} {c:AC} {n:Nat} {r:Ex×Env×Stk}(h:exec T n (frozen ls c) e s=some r)(hp:Pre P N w0 e s a w γ):
 ∃e1 s1 m γ1,m≤n∧exec T m c e1 s1=some r∧Pre P N w0 e1 s1 a w γ1∧Ext (dep s) w γ w γ1∧s1.length=s.length:=by
 cases ls with
 |nil=>exact⟨e,s,n,γ,Nat.le_refl _,h,hp,Ext.refl _ _ _,rfl⟩
 |cons l ls=>
   simp only[frozen]at h
   cases n with
   |zero=>cases h
   |succ n=>
     cases n with
     |zero=>simp[exec,step]at h
     |succ n=>
       simp only[exec,step]at h
       obtain⟨γ',p1,p2,p3⟩:=hp.ghost (frzAll_ok (l::ls) hp.env hp.stk)
       exact⟨_,_,n+1,γ',by omega,h,p1,p2,p3⟩
theorem loop_ok {c:Code} {ac:AC} {ann ann':Ann}(hc:comp P N c ann=some (ac,ann')) {F:Fence}(hF:Wide F)(hr:F.round=none∨noRng c=true) {n:Nat} {live keep:List Nat} {ex:Ex} {e':Env} {s':Stk} {D L:Nat} {wI:World} {γI:G}(hw:w0≤wI.heap.size):
 ∀(k:Nat),(∀j,j<k→CodeOk P (exec T j))→ ∀ {e:Env} {s:Stk} {a:Act} {w:World} {γ:G},exec T k (.loop live keep ac) e s=some (ex,e',s')→Pre P N w0 e s a w γ→Ext D wI γI w γ→dep s=D→s.length=L→
  Code.roundsIn F n P c (CodePost (KP P) N w0 D L wI γI ex e' s') k a w
 |0,_,_,_,_,_,_,h,_,_,_,_=>by cases h
 |k+1,ih,e,s,a,w,γ,h,hp,hx,hD,hL=>by
   simp only[exec,step,stepLoop]at h
   rw[roundsIn_succ]
   have hdep:dep (gcStk keep s)=dep s:=by simp[dep,gcStk_length]
   have hpg:Pre P N w0 (gcEnv live keep e s) (gcStk keep s) a w (γ.drop (dep s) keep):=
    ⟨fun e0=>hp.len (by rw[←gcStk_length keep s,e0];rfl),hp.size,by rw[gcStk_length];exact hp.env.gc live keep,hp.stk.gc keep,hp.marks.own own_drop,hp.w0⟩
   have hxg:Ext (dep s) w γ w (γ.drop (dep s) keep):=Ext.drop (Nat.le_refl _)
   have run: ∀ex1 e1 s1,exec T k ac (gcEnv live keep e s) (gcStk keep s)=some (ex1,e1,s1)→
    c.wpIn F n P (CodePost (KP P) N w0 D L wI γI ex1 e1 s1) a w:=by
    intro ex1 e1 s1 h1
    have:=ih k (by omega) N c ann ac ann' hc _ _ _ _ _ h1 F hF hr n w0 w _ a hpg
    rw[hdep,hD,gcStk_length,hL]at this
    refine wpIn_mono this fun x a1 w1 hq=> ?_
    exact(hq.weak (by rw[←hD];exact hxg)).weak hx
   split at h
   ·rename_i e1 s1 h1
    refine wpIn_mono (run _ _ _ h1) fun x a1 w1 hq=> ?_
    obtain⟨γ1,q1,q2,q3,q4⟩:=hq.pre (by rw[←hL];exact hp.len) hw
    subst q4
    show Code.roundsIn F n P c _ k a1 w1
    exact loop_ok hc hF hr hw k (fun j hj=>ih j (by omega)) h q1 q2 (by rw[←hD];simp[dep,q3,hL]) q3
   ·rename_i h1
    obtain⟨y,hy⟩: ∃y,exec T k ac (gcEnv live keep e s) (gcStk keep s)=y:=⟨_,rfl⟩
    rw[hy]at h
    subst h
    refine wpIn_mono (run _ _ _ hy) fun x a1 w1 hq=> ?_
    have hx:x=ex.out:=hq.1
    cases ex with
    |normal=>exact absurd hy (h1 _ _)
    |exit id=>subst hx;exact hq
    |ret=>subst hx;exact hq
theorem shut_ext {D:Nat} {w0:World} {γ0:G} {w w':World} {γ:G}(h:Ext D w0 γ0 w γ) {r:Nat}(hr:w0.heap.size≤r)(os:w'.os=w.os)(tape:w'.tape=w.tape)(output:w'.output=w.output)(size:w'.heap.size=w.heap.size)(drawn:w'.drawn=w.drawn)
 (heap: ∀k,k≠r→w'.heap[k]? =w.heap[k]?) (hf: ∀l g b,γ0 none l=some g→g.blk=some b→b<w0.heap.size):Ext D w0 γ0 w' γ:=by
 refine⟨os.trans h.os,tape.trans h.tape,output.trans h.output,by rw[size];exact h.size,by rw[drawn];exact h.drawn,h.cell,h.obj,h.arr,h.harr,h.tok,fun b off u hc hno=> ?_,h.free,fun b hb hno=> ?_,h.frn,fun l g b hg hb=> ?_⟩
 ·have hlt:b<w0.heap.size:=World.block_lt_of_cell? w0 _ hc
  have:=h.keep b off u hc hno
  rw[←this]
  exact World.cell?_of_block (heap b (by omega))
 ·rw[heap b (by omega)];exact h.block b hb hno
 ·rw[heap b (by have:=hf l g b hg hb;omega)];exact h.fheap l g b hg hb
end
end Go.Ab

/-
  'exec' is right: a call's entry and end; rounds; the whole.
-/
namespace Go.Ab
section
variable {P : Program} {T : Tab} {N w0 : Nat} {e : Env} {s : Stk} {a : Act} {w : World} {γ : G}
structure TabOk(P:Program)(T:Tab):Prop where
 code: ∀f fn,T.fns f=some (.code fn)→ ∃func ann,P.funcs[f]? =some func∧compFn P func ann=some fn
 prim: ∀f p,T.fns f=some (.prim p)→ ∀args lab s v s',p args lab s=some (v,s')→Enters P f∧
  ∀w γ us,LR s.length w γ args us→SR (KP P) s w γ→Calls P f us.toArray w (CPost (KP P) s w γ v s')
theorem SR.push(h:SR (KP P) s w γ):SR (KP P) ([]::s) w γ:=by
 refine⟨fun d l x hx=> ?_,fun d l hx=> ?_,h.inj,h.frn⟩
 ·simp only[sget]at hx
  split at hx
  ·cases hx
  ·exact h.ent d l x hx
 ·simp only[sget]at hx
  split at hx
  ·rename_i hd
   cases hg:γ d l with
   |none=>rfl
   |some g=>have:=h.lt hg;omega
  ·exact h.none d l hx
theorem argEnv_get: ∀(args:List V) (i t:Nat),(argEnv i args).get t=if i≤t then(args[t-i]?).getD .undef else .undef
 |[],i,t=>by simp[argEnv,Env.get]
 |v::r,i,t=>by
   simp only[argEnv,Env.get]
   split
   ·rename_i h;subst h;simp
   ·rename_i h
    rw[argEnv_get r (i+1) t]
    by_cases hi:i≤t
    ·rw[if_pos hi,if_pos (by omega),show t-i=(t-(i+1))+1 by omega];simp
    ·rw[if_neg hi,if_neg (by omega)]
theorem ER.args {D:Nat} {args:List V} {us:List Value}(h:LR D w γ args us)(n:Nat):ER D w γ (argEnv 0 args) {tmps:=us.toArray ++Array.replicate n undef,defers:=[]}:=by
 intro t
 rw[argEnv_get]
 simp only[Nat.zero_le,if_true,Nat.sub_zero]
 by_cases ht:t<args.length
 ·have hu:t<us.length:=by rw[←h.1];exact ht
  have:(us.toArray ++Array.replicate n undef).getD t undef=us[t]:=by simp[Array.getD_eq_getD_getElem?,Array.getElem?_append,hu]
  rw[this]
  simp only[List.getElem?_eq_getElem ht,Option.getD_some]
  exact h.2 t _ _ (by simp) (by simp)
 ·rw[List.getElem?_eq_none (by omega)]
  exact .undef _
def resStep(tmps:Array Value):ResultVar→Sem Value
 | .tmp t=>pure (tmps.getD t undef)
 | .cell x t=>do loadVar t (←asAddr (tmps.getD x undef))
theorem results_ok(hE:ER s.length w γ e a)(hS:SR (KP P) s w γ): ∀ {rs:List ResultVar} {ars:List ARes} {vs:List V},compRes P rs=some ars→results e s ars=some vs→
 ∃us,(rs.mapM (resStep a.tmps)).run P w= .ok us w∧LR s.length w γ vs us
 |[],ars,vs,hc,hr=>by
   simp[compRes]at hc;subst hc
   simp[results]at hr;subst hr
   exact⟨[],by simp,LR.nil⟩
 | .tmp t::rs,ars,vs,hc,hr=>by
   simp only[compRes]at hc
   obtain⟨l,h1,rfl⟩:=Option.map_eq_some_iff.1 hc
   simp only[results]at hr
   split at hr
   ·rename_i v vs' h2 h3
    cases hr
    cases h2
    obtain⟨us,k1,k2⟩:=results_ok hE hS h1 h3
    exact⟨a.tmps.getD t undef::us,by simp only[List.mapM_cons,Sem.run_bind,resStep,Sem.run_pure,Result.andThen_ok,k1],LR.cons (hE t) k2⟩
   ·cases hr
 | .cell x t::rs,ars,vs,hc,hr=>by
   simp only[compRes]at hc
   split at hc
   ·rename_i n l hn h1
    cases hc
    simp only[results]at hr
    split at hr
    ·rename_i v vs' h2 h3
     cases hr
     obtain⟨us,k1,k2⟩:=results_ok hE hS h1 h3
     split at h2
     ·rename_i d lb off he
      split at h2
      ·rename_i cs hg
       have hx:=hE x
       rw[he]at hx
       obtain⟨b,c,hu,hb,hl,hrd,hd⟩:=ptr_mem hS hx hg
       obtain⟨u,q1,q2⟩:=load_ok hn ((show LR s.length w γ cs c from hl.mono (by omega)).drop off) (by simpa using hrd.drop off) (part_drop h2)
       refine⟨u::us,?_,LR.cons q2 k2⟩
       simp only[List.mapM_cons,Sem.run_bind,resStep,hu,asAddr,Sem.run_pure,Result.andThen_ok,k1,q1]
      ·cases h2
     ·cases h2
    ·cases hr
   ·cases hc
theorem results_run(hE:ER s.length w γ e a)(hS:SR (KP P) s w γ) {fn:Func} {ars:List ARes} {vs:List V}(hc:compRes P fn.results.toList=some ars)(hr:results e s ars=some vs):
 ∃u,(Go.results fn a.tmps).run P w= .ok u w∧VR s.length w γ (pack vs) u:=by
 obtain⟨us,h1,h2⟩:=results_ok hE hS hc hr
 refine⟨if us.length=1 then us.headD undef else .tuple us.toArray,?_,?_⟩
 ·have hm:(fn.results.mapM (resStep a.tmps)).run P w= .ok us.toArray w:=by
   rw[Array.mapM_eq_mapM_toList]
   simp[h1]
  have hfun:Go.results fn a.tmps=(do let vs←fn.results.mapM (resStep a.tmps);pure (if h:vs.size=1 then vs[0]else .tuple vs)):=rfl
  rw[hfun]
  simp only[Sem.run_bind,hm,Result.andThen_ok,Sem.run_pure]
  congr 1
  match us with
  |[]=>simp
  |[x]=>simp
  |x::y::r=>simp
 ·match vs,us,h2 with
  |[],us,h2=>
    have:us=[]:=List.eq_nil_of_length_eq_zero h2.1.symm
    subst this
    simpa [pack]using VR.tup_mk h2
  |[v],us,h2=>
    obtain⟨u,us',rfl,h3,h4⟩:=h2.inv
    have:us'=[]:=List.eq_nil_of_length_eq_zero h4.1.symm
    subst this
    simpa [pack]using h3
  |v::v'::r,us,h2=>
    have hne:us.length≠1:=by rw[←h2.1];simp
    rw[if_neg hne]
    exact VR.tup_mk h2
theorem VR.world {D:Nat} {w w':World} {v:V} {u:Value}(h:VR D w γ v u)(hc: ∀b off u,w.cell? ⟨b,off,none⟩=some u→w'.cell? ⟨b,off,none⟩=some u):VR D w' γ v u:=by
 induction h with
 |undef u=>exact .undef u
 |skip=>exact .skip
 |int k n=>exact .int k n
 |bool b=>exact .bool b
 |anyb b=>exact .anyb b
 |csl p n cap a hle _ ih=>exact .csl p n cap a hle ih
 |mp p q _ ih=>exact .mp p q ih
 |agg cs us hl _ ih=>exact .agg cs us hl ih
 |tup cs us hl _ ih=>exact .tup cs us hl ih
 |nilp=>exact .nilp
 |ptr d l off b hd hb=>exact .ptr d l off b hd hb
 |ep cs b off hp hc' hno _ ih=>
   refine .ep cs b off hp (fun i v hv=> ?_) hno (fun i v u hv hu=> ?_)
   ·obtain⟨u,hu⟩:=hc' i v hv;exact⟨u,hc _ _ _ hu⟩
   ·obtain⟨u',hu'⟩:=hc' i v hv
    rw[hc _ _ _ hu']at hu;cases hu
    exact ih i v _ hv hu'
 |slnil c sz hcap=>exact .slnil c sz hcap
 |sl0 c sz a cap hcap=>exact .sl0 c sz a cap hcap
 |sl c sz es b off cap hsz hp hle hcap hc' hno _ ih=>
   refine .sl c sz es b off cap hsz hp hle hcap (fun i cs j v hi hj=> ?_) hno (fun i cs j v u hi hj hu=> ?_)
   ·obtain⟨u,hu⟩:=hc' i cs j v hi hj;exact⟨u,hc _ _ _ hu⟩
   ·obtain⟨u',hu'⟩:=hc' i cs j v hi hj
    rw[hc _ _ _ hu']at hu;cases hu
    exact ih i cs j v _ hi hj hu'
 |fn f first cap us ws h1 h2 _ _ i1 i2=>exact .fn f first cap us ws h1 h2 i1 i2
 |nilf=>exact .nilf
 |yld d l b hd hb=>exact .yld d l b hd hb
 |asl d l sz n off len b k hd hb hle hk=>exact .asl d l sz n off len b k hd hb hle hk
 |aslnil d l sz base hd hb=>exact .aslnil d l sz base hd hb
 |aslold d l sz n off len N blk base ln cp hd hb hn=>exact .aslold d l sz n off len N blk base ln cp hd hb hn
 |eptr d l n i j b sz k hd hb=>exact .eptr d l n i j b sz k hd hb
 |eptrold d l n i j N blk p hd hb hn=>exact .eptrold d l n i j N blk p hd hb hn
 |aslh d l sz n off len lo N f hd hb hn hle hk=>exact .aslh d l sz n off len lo N f hd hb hn hle hk
 |eptrh d l n i j sz lo N f hd hb hn=>exact .eptrh d l n i j sz lo N f hd hb hn
 |aslho d l sz n off len lo N sz' f base ln cp hd hb hn=>exact .aslho d l sz n off len lo N sz' f base ln cp hd hb hn
 |eptrho d l n i j lo N sz' f p hd hb hn=>exact .eptrho d l n i j lo N sz' f p hd hb hn
theorem SR.world {w':World}(h:SR (KP P) s w γ)(hc: ∀b off u,w.cell? ⟨b,off,Option.none⟩=some u→w'.cell? ⟨b,off,Option.none⟩=some u)(hs:w.heap.size≤w'.heap.size)
 (hb: ∀d l g b,γ d l=some g→g.blk=some b→w'.heap[b]? =w.heap[b]?):SR (KP P) s w' γ:=by
 refine⟨fun d l x hx=> ?_,h.none,h.inj,fun l g b h1 h2=>Nat.lt_of_lt_of_le (h.frn l g b h1 h2) hs⟩
 have he:=h.ent d l x hx
 cases x with
 |cell cs=>
   obtain⟨b,c,e,h1,h2,h3⟩:=he
   exact⟨b,c,e,h1,(hb _ _ _ _ h1 rfl).trans h2,h3.1,fun i v u hv hu=>(h3.2 i v u hv hu).world hc⟩
 |tok n=>
   obtain⟨blk,h1,h2⟩:=he
   refine⟨blk,h1,fun b sz k e=> ?_⟩
   obtain⟨c,el,h3,h4⟩:=h2 b sz k e
   exact⟨c,el,(hb _ _ _ b h1 (by rw[e];rfl)).trans h3,h4⟩
 |arr sz es=>
   obtain⟨blk,h1,h0,h2⟩:=he
   refine⟨blk,h1,h0,?_⟩
   cases blk with
   |none=>exact h2
   |some y=>
     obtain⟨b,sz',k⟩:=y
     obtain⟨e1,c,e,h3,h4,h5,h6,h7,h8⟩:=h2
     exact⟨e1,c,e,(hb _ _ _ b h1 rfl).trans h3,h4,h5,h6,h7,fun i cs j v u k1 k2 k3=>(h8 i cs j v u k1 k2 k3).world hc⟩
 |harr lo sz es=>
   obtain⟨f,h1,h0,hz,hlo,⟨c,e,h4,h5,h6⟩,h2⟩:=he
   refine⟨f,h1,h0,hz,hlo,⟨c,e,(hb _ _ _ _ h1 rfl).trans h4,h5,h6⟩,fun m m1 m2=> ?_⟩
   obtain⟨h7,h3,h8⟩:=h2 m m1 m2
   refine⟨h7,?_,fun i cs j v k0 k1 k2=> ?_⟩
   ·rcases h3 with h3|h3
    ·exact .inl h3
    ·exact .inr ⟨Nat.lt_of_lt_of_le h3.1 hs,h3.2⟩
   ·obtain⟨u,k3,k4⟩:=h8 i cs j v k0 k1 k2
    exact⟨u,hc _ _ _ k3,k4.world hc⟩
 |mp t kvs=>
   obtain⟨b,h1,h2,h3⟩:=he
   exact⟨b,h1,(hb _ _ _ _ h1 rfl).trans h2,h3⟩
 |loop ps A B env o p=>
   obtain⟨b,r,h1,h2,h3,h4,h5⟩:=he
   exact⟨b,r,h1,(hb _ _ _ _ h1 rfl).trans h2,h3,fun t=>(h4 t).world hc,h5⟩
theorem leaves_ok {fn:Func} {ars:List ARes} {vs:List V} {loc:Loc} {own:Bool} {lab:Nat} {v:V} {s':Stk} {tmps:Array Value}(hc:compRes P fn.results.toList=some ars) {wI:World} {γI:G}(hf: ∀l g b,γI Option.none l=some g→g.blk=some b→b<wI.heap.size)
 (hr:results e (loc::s) ars=some vs) (had:adopt own loc (pack vs) lab s=some (v,s')): ∀(ds:List Deferred) {w:World},Marks wI.heap.size γ ds w→ER (loc::s).length w γ e {tmps,defers:=[]}→SR (KP P) (loc::s) w γ→Ext s.length wI γI w γ→
  LeavesInM Fence.wide 0 P fn tmps (CPost (KP P) s wI γI v s') ds .returning w
 |[],w,_,hE,hS,hx=>by
   obtain⟨u,h1,h2⟩:=results_run hE hS hc hr
   obtain⟨γ',k1,k2,k3,k4⟩:=adopt_ok hS h2 had
   exact⟨u,h1,u,γ',rfl,k1,k2,k4 _ _ hx,k3⟩
 |d::ds,w,hm,hE,hS,hx=>by
   obtain⟨r,h1,h2,h3,h4⟩:=hm.2 d (by simp)
   refine⟨by simp, .inl ⟨r,w.putObj r (.deferred none),h1,run_takeDeferred h3,?_⟩⟩
   have hlt:r<w.heap.size:=(Array.getElem?_eq_some_iff.1 h3).1
   have hold: ∀k,k≠r→(w.putObj r (.deferred none)).heap[k]? =w.heap[k]? :=fun k hk=>World.putObj_heap_other hk
   have hcell: ∀b off u,w.cell? ⟨b,off,none⟩=some u→(w.putObj r (.deferred none)).cell? ⟨b,off,none⟩=some u:=by
    intro b off u hu
    have hb:b≠r:=by rintro rfl;simp[World.cell?,h3]at hu
    rw[←hu]
    exact World.cell?_of_block (hold b hb)
   have hblk: ∀d l g b,γ d l=some g→g.blk=some b→(w.putObj r (.deferred none)).heap[b]? =w.heap[b]? :=by
    intro d l g b hg hb
    refine hold b ?_
    rintro rfl
    cases g with
    |cell b'=>simp[GE.blk]at hb;subst hb;exact h4 0 ⟨d,l,_,hg,rfl⟩
    |obj b'=>simp[GE.blk]at hb;subst hb;exact h4 0 ⟨d,l,_,hg,rfl⟩
    |tok n blk=>
      cases blk with
      |none=>simp[GE.blk]at hb
      |some y=>obtain⟨b',sz,k⟩:=y;simp[GE.blk]at hb;subst hb;exact h4 (n*sz) ⟨d,l,_,hg,rfl,Nat.le_refl _⟩
    |arr n blk=>
      cases blk with
      |none=>simp[GE.blk]at hb
      |some y=>obtain⟨b',sz,k⟩:=y;simp[GE.blk]at hb;subst hb;exact h4 0 ⟨d,l,_,hg,rfl⟩
    |harr lo n sz f=>simp[GE.blk]at hb;subst hb;exact h4 0 ⟨d,l,_,hg,rfl⟩
   refine leaves_ok hc hf hr had ds ⟨?_,fun d' hd'=> ?_⟩ (fun t=>(hE t).world hcell) (hS.world hcell (by simp) hblk) (shut_ext hx h2 rfl rfl rfl (by simp) rfl hold hf)
   ·have:=hm.1;simp only[List.map_cons,List.nodup_cons]at this;exact this.2
   ·obtain⟨r',q1,q2,q3,q4⟩:=hm.2 d' (by simp[hd'])
    refine⟨r',q1,q2,?_,q4⟩
    rw[hold r' ?_];exact q3
    rintro rfl
    have:=hm.1
    simp only[List.map_cons,List.nodup_cons]at this
    exact this.1 (List.mem_map.2 ⟨d',hd',by rw[q1,h1]⟩)
theorem stat_of_code(tab:TabOk P T) {X:Exec}(hX:CodeOk P X):StatOk (KP P) P T X:=by
 intro f args lab s v s' h
 unfold enter at h
 split at h
 ·cases h
 ·rename_i p hp
  exact tab.prim f p hp args lab s v s' h
 ·rename_i fn hfn
  obtain⟨func,ann,hf,hcomp⟩:=tab.code f fn hfn
  unfold compFn at hcomp
  split at hcomp
  ·rename_i c hbody
   split at hcomp
   ·rename_i body ann' res hc hres
    split at hcomp
    ·rename_i hcond
     cases hcomp
     refine⟨fun args w=> ?_,fun w γ us hl hS=> ?_⟩
     ·simp[callFunc,hf,hcond.2,hbody]
     ·split at h
      ·rename_i hlen
       split at h
       ·rename_i ex e' s1 hx
        have hargs:us.toArray.size≤func.ntmps:=by
         have:us.length=func.params.size+func.nfree:=by rw[←hl.1];exact hlen
         simp;omega
        have hend: ∀loc s2,s1=loc::s2→ex≠ .exit 0→(match results e' s1 res with|none=>none|some vs=>adopt ann.own loc (pack vs) lab s2)=some (v,s')→(∀id,ex≠ .exit id)→Calls P f us.toArray w (CPost (KP P) s w γ v s'):=by
         intro loc s2 hs1 _ hend hne
         subst hs1
         split at hend
         ·cases hend
         ·rename_i vs hvs
          refine callsIn_wide.1 (callsIn_of_wp_marks (F:=Fence.wide) (n:=0) hf hbody trivial ?_)
          have hpre:Pre P func.ntmps w.heap.size (argEnv 0 args) ([]::s) {tmps:=us.toArray ++Array.replicate (func.ntmps-us.toArray.size) undef,defers:=[]} w γ:=
           ⟨by simp,by simp;simp at hargs;omega,ER.args (hl.mono (by simp)) _,hS.push,⟨by simp,by simp⟩,Nat.le_refl _⟩
          have:=hX _ _ _ _ _ hc _ _ _ _ _ hx Fence.wide (.inl rfl) (.inl rfl) 0 w.heap.size w γ _ hpre
          refine wpIn_mono this fun x a1 w1 hq=> ?_
          obtain⟨hxo,γ1,q1,q2,q3,q4,q5,q6⟩:=hq
          have hd:dep ([]::s)=s.length:=by simp[dep]
          rw[hd]at q4
          have hlen2:s2.length=s.length:=by simpa using q5
          have fin:LeavesInM Fence.wide 0 P func a1.tmps (CPost (KP P) s w γ v s') a1.defers .returning w1:=by
           have:=leaves_ok (w:=w1) (γ:=γ1) (s:=s2) (tmps:=a1.tmps) hres (wI:=w) (γI:=γ) (fun l g b h1 h2=>hS.frn l g b h1 h2) hvs hend a1.defers q6 q2 q3 (by rw[hlen2];exact q4)
           have e1:CPost (KP P) s2 w γ v s'=CPost (KP P) s w γ v s':=by unfold CPost;rw[hlen2]
           rwa [e1]at this
          cases ex with
          |normal=>subst hxo;exact fin
          |ret=>subst hxo;exact fin
          |exit id=>exact absurd rfl (hne id)
        cases ex with
        |exit id=>cases h
        |normal=>
          dsimp only at h
          split at h
          ·cases h
          ·rename_i loc s2
           exact hend loc s2 rfl (by simp) h (by simp)
        |ret=>
          dsimp only at h
          split at h
          ·cases h
          ·rename_i loc s2
           exact hend loc s2 rfl (by simp) h (by simp)
       ·cases h
      ·cases h
    ·cases hcomp
   ·cases hcomp
  ·cases hcomp
end
end Go.Ab

/-
  'exec' is right: rounds of a range over a function; the whole.
-/
namespace Go.Ab
section
variable {P : Program} {T : Tab} {N w0 : Nat} {e : Env} {s : Stk} {a : Act} {w : World} {γ : G}
theorem ER.bind {D:Nat} {ds:List Deferred}: ∀ {ps:List Nat} {args:List V} {us:List Value} {e:Env} {tmps:Array Value},LR D w γ args us→(∀t∈ps,t<tmps.size)→ER D w γ e {tmps,defers:=ds}→
 ER D w γ (bindEnv ps args e) {tmps:=(ps.zip us).foldl (fun tmps (x:Nat×Value)=>tmps.setIfInBounds x.1 x.2) tmps,defers:=ds}∧((ps.zip us).foldl (fun tmps (x:Nat×Value)=>tmps.setIfInBounds x.1 x.2) tmps).size=tmps.size
 |[],args,us,e,tmps,hl,hp,hE=>by simpa [bindEnv]using hE
 |t::ps,[],us,e,tmps,hl,hp,hE=>by
   have:us=[]:=List.eq_nil_of_length_eq_zero hl.1.symm
   subst this
   simpa [bindEnv]using hE
 |t::ps,v::args,us,e,tmps,hl,hp,hE=>by
   obtain⟨u,us',rfl,h1,h2⟩:=hl.inv
   have ht:t<tmps.size:=hp t (by simp)
   have hE':ER D w γ ((t,v)::e) {tmps:=tmps.setIfInBounds t u,defers:=ds}:=by
    have:=ER.put (dst:=some t) hE h1 (fun d hd=>by cases hd;exact ht)
    simpa [setDst,Act.put]using this
   have:=ER.bind (ps:=ps) (tmps:=tmps.setIfInBounds t u) h2 (fun t' ht'=>by have:=hp t' (List.mem_cons_of_mem _ ht');simpa using this) hE'
   exact⟨by simpa [bindEnv]using this.1,by simpa using this.2⟩
theorem loop_turn_e(hS:SR (KP P) s w γ) {d l b:Nat} {ps:List Nat} {A B:AC} {env:Env} {st:LoopState} {pend:Option Ex}(hg:sget s d l=some (.loop ps A B env st pend))(hb:γ d l=some (.obj b)) {r:Loop}(hr:w.heap[b]? =some (.loop r))(st':LoopState)(pend':Option Ex)
 {r':Loop} (hr':r'= {r with state:=st',pending:=pend'.map Ex.code}) {env':Env} (henv: ∀t,env'.get t=env.get t∨env'.get t= .undef):
 SR (KP P) (sput s d l (.loop ps A B env' st' pend')) (w.putObj b (.loop r')) γ∧Ext s.length w γ (w.putObj b (.loop r')) γ:=by
 obtain⟨b',q,h1,h2,h3,h4,h5⟩:=hS.ent d l _ hg
 rw[hb]at h1;cases h1
 rw[hr]at h2;cases h2
 have hlt:b<w.heap.size:=(Array.getElem?_eq_some_iff.1 hr).1
 have hold: ∀k,k≠b→(w.putObj b (.loop r')).heap[k]? =w.heap[k]? :=fun k hk=>World.putObj_heap_other hk
 have hx:Ext s.length w γ (w.putObj b (.loop r')) γ:=by
  refine⟨rfl,rfl,rfl,by simp,Nat.le_refl _,fun _ _ _ _ h=>h,fun _ _ _ _ h=>h,fun _ _ n blk _ h=>⟨n,blk,h, .inl ⟨rfl,rfl⟩⟩,fun _ _ lo N _ f _ h=>⟨lo,N,f,h,Nat.le_refl _,Nat.le_refl _,fun _ _ _=>rfl⟩,fun _ _ n blk _ h=>⟨n,blk,h, .inl ⟨rfl,rfl⟩⟩,?_,fun _ _ _ h=>h,?_,fun _=>rfl,?_⟩
  ·intro b1 off u hc _
   have:b1≠b:=by rintro rfl;simp[World.cell?,hr]at hc
   rw[←hc]
   exact World.cell?_of_block (hold b1 this)
  ·intro b1 _ hno
   refine hold b1 ?_
   rintro rfl
   exact hno 0 ⟨d,l,_,hb,rfl⟩
  ·intro l1 g1 b1 k1 k2
   refine hold b1 ?_
   rintro rfl
   exact hS.notfrn hb rfl l1 g1 k1 k2
 refine⟨hS.step (g:= .obj b) (hS.lt hb) hx (set_self hb).symm ⟨b,r',hb,World.putObj_heap_same hlt,?_,fun t=> ?_,?_⟩ ?_ ?_,hx⟩
 ·rw[hr'];exact h3
 ·have e1:r'.tmps=r.tmps:=by rw[hr']
  rw[e1]
  rcases henv t with h|h
  ·rw[h];exact(h4 t).ext (hx.mono (hS.lt hb))
  ·rw[h];exact .undef _
 ·rw[hr'];exact⟨rfl,rfl⟩
 ·intro d' l' g' b1 hne hg' hb1
  refine hold b1 ?_
  rintro rfl
  exact hne (hS.inj d' l' g' d l _ b1 hg' hb hb1 rfl)
 ·intro b1 hb1 d' l' g' hne hg' hb'
  simp[GE.blk]at hb1;subst hb1
  exact hne (hS.inj d' l' g' d l _ b hg' hb hb' rfl)
theorem loop_turn(hS:SR (KP P) s w γ) {d l b:Nat} {ps:List Nat} {A B:AC} {env:Env} {st:LoopState} {pend:Option Ex}(hg:sget s d l=some (.loop ps A B env st pend))(hb:γ d l=some (.obj b)) {r:Loop}(hr:w.heap[b]? =some (.loop r))(st':LoopState)(pend':Option Ex)
 {r':Loop} (hr':r'= {r with state:=st',pending:=pend'.map Ex.code}):
 SR (KP P) (sput s d l (.loop ps A B env st' pend')) (w.putObj b (.loop r')) γ∧Ext s.length w γ (w.putObj b (.loop r')) γ:=
 loop_turn_e hS hg hb hr st' pend' hr' fun _=> .inl rfl
theorem SR.loop {K:KK}(hS:SR K s w γ) {d l:Nat} {ps:List Nat} {A B:AC} {env:Env} {st:LoopState} {pend:Option Ex}(hg:sget s d l=some (.loop ps A B env st pend)):
 ∃b r,γ d l=some (.obj b)∧w.heap[b]? =some (.loop r)∧K ps A B r.fn r.tmps.size r.params r.assign r.body∧(∀t,VR (d+1) w γ (env.get t) (r.tmps.getD t undef))∧r.state=st∧r.pending=pend.map Ex.code:=hS.ent d l _ hg
theorem SR.pop {loc:Loc}(hS:SR (KP P) (loc::s) w γ):SR (KP P) s w (γ.pop s.length [] 0):=
 (pop_ok (own:=false) (lab:=0) (ls:=[]) hS (fun _=>rfl) rfl (by simp) (fun _ _ _=>rfl)).2
theorem yld_of_code {X:Exec}(hX:CodeOk P X):YldOk (KP P) P T X:=by
 intro d l args lab s v s' h w γ b us hγ hl hS
 simp only[enterV]at h
 split at h
 ·rename_i ps A B env hg
  split at h
  ·rename_i hlen
   split at h
   ·rename_i e1 s1 h1
    split at h
    ·rename_i ps1 A1 B1 env1 hg1
     split at h
     ·rename_i ex e2 s2 h2
      split at h
      ·cases h
      ·rename_i loc3 s3
       split at h
       ·rename_i ps3 A3 B3 env3 st3 pend3 hg3
        obtain⟨b',r,k1,k2,k3,k4,k5,k6⟩:=hS.loop hg
        rw[hγ]at k1;cases k1
        obtain⟨hps,⟨ann1,ann1',hcA⟩,⟨ann2,ann2',hcB⟩,nA,nB,hpN⟩:=k3
        have hd:d<s.length:=hS.lt hγ
        have hsz:us.toArray.size=r.params.size:=by
         have:us.length=ps.length:=by rw[←hl.1];exact hlen
         rw[←hps]at this
         simpa using this
        refine⟨_,_,_,_,run_yield k2 hsz,roundIn_of_wpIn (F:=Fence.wide) trivial ?_⟩
        have hfold:(r.params.zip us.toArray).foldl (fun tmps (x:Nat×Value)=>tmps.setIfInBounds x.1 x.2) r.tmps=(ps.zip us).foldl (fun tmps (x:Nat×Value)=>tmps.setIfInBounds x.1 x.2) r.tmps:=by
         rw[←Array.foldl_toList,Array.toList_zip,hps]
        have hb:=ER.bind (ds:=[]) (ps:=ps) (tmps:=r.tmps) (e:=env) (D:=s.length+1) (hl.mono (Nat.le_succ _)) hpN (fun t=>(k4 t).mono (by omega))
        have hpreA:Pre P r.tmps.size w.heap.size (bindEnv ps args env) ([]::s) {tmps:=(r.params.zip us.toArray).foldl (fun tmps (x:Nat×Value)=>tmps.setIfInBounds x.1 x.2) r.tmps,defers:=[]} w γ:=by
         rw[hfold]
         exact⟨by simp,hb.2,hb.1,hS.push,⟨by simp,by simp⟩,Nat.le_refl _⟩
        have hA:=hX _ _ _ _ _ hcA _ _ _ _ _ h1 (Fence.wide.inRound b) (.inr ⟨b,rfl⟩) (.inr nA) 0 _ w γ _ hpreA
        have hdep:dep ([]::s)=s.length:=by simp[dep]
        rw[hdep]at hA
        refine wpIn_mono hA fun x a1 w1 hq=> ?_
        obtain⟨γ1,p1,x1,l1,rfl⟩:=hq.pre (by simp) (Nat.le_refl _)
        have hg1':=x1.obj d l b hd hγ
        obtain⟨b1,r1,q1,q2,q3,q4,q5,q6⟩:=p1.stk.loop hg1
        rw[hg1']at q1;cases q1
        refine⟨_,run_beginRound q2 q5,?_⟩
        obtain⟨t1,t2⟩:=loop_turn p1.stk hg1 hg1' q2 .busy none (r':= {r1 with state:= .busy}) (by cases r1;simp_all)
        have hpreB:Pre P r.tmps.size w.heap.size e1 (sput s1 d l (.loop ps1 A1 B1 env1 .busy none)) a1 (w1.putObj b (.loop {r1 with state:= .busy})) γ1:=
         ⟨fun e0=>p1.len (by rw[←sput_length s1 d l,e0];rfl),p1.size,by rw[sput_length];exact p1.env.ext t2,t1,p1.marks.ext t2,Nat.le_trans p1.w0 t2.size⟩
        have hB:=hX _ _ _ _ _ hcB _ _ _ _ _ h2 (Fence.wide.inRound b) (.inr ⟨b,rfl⟩) (.inr nB) 0 _ _ γ1 _ hpreB
        have l1':s1.length=s.length+1:=by simpa using l1
        have hdep2:dep (sput s1 d l (.loop ps1 A1 B1 env1 .busy none))=s.length:=by rw[dep_sput];simp[dep,l1']
        rw[hdep2]at hB
        refine wpIn_mono hB fun x a2 w2 hq2=> ?_
        obtain⟨γ2,p2,x2,l2,rfl⟩:=hq2.pre (by rw[sput_length,l1'];omega) (Nat.le_trans p1.w0 t2.size)
        have l3:s3.length=s.length:=by rw[sput_length,l1']at l2;simpa using l2
        have hS3:=p2.stk.pop
        have xall:Ext s.length w γ w2 γ2:=(x1.trans (t2.mono (by omega))).trans x2
        have xpop:Ext s.length w γ w2 (γ2.pop s3.length [] 0):=by rw[l3];exact pop_ext [] 0 xall
        have hg3':=xpop.obj d l b hd hγ
        obtain⟨b3,r3,z1,z2,z3,z4,z5,z6⟩:=hS3.loop hg3
        rw[hg3']at z1;cases z1
        have fin: ∀(st:LoopState) (pend:Option Ex) (bv:Bool) (j:Option Code),j=pend.map Ex.code→st=(if j.isNone then .ready else .done)→bv=j.isNone→some (V.bool bv,sput s3 d l (.loop ps3 A3 B3 env3 st pend))=some (v,s')→
         ∃v' w',(Instr.endRound b j).run P w2= .ok v' w'∧CPost (KP P) s w γ v s' (.returned v') w':=by
         intro st pend bv j hj hst hbv hv
         cases hv
         obtain⟨y1,y2⟩:=loop_turn hS3 hg3 hg3' z2 st pend (r':= {r3 with state:=if j.isNone then .ready else .done,pending:=j}) (by rw[hst,hj])
         refine⟨_,_,run_endRound j z2,_,_,rfl,?_,y1,xpop.trans (y2.mono (by omega)),by rw[sput_length];exact l3⟩
         rw[hbv];exact .bool _
        cases ex with
        |normal=>exact fin .ready none true none rfl rfl rfl h
        |exit id=>exact fin .done (some (.exit id)) false (some (.exit id)) rfl rfl rfl h
        |ret=>exact fin .done (some .ret) false (some .ret) rfl rfl rfl h
       ·cases h
     ·cases h
    ·cases h
   ·cases h
  ·cases h
 ·cases h
theorem wpIn_code {F:Fence} {n:Nat} {Q:Exit→Act→World→Prop}(ex:Ex)(h:Q ex.out a w):ex.code.wpIn F n P Q a w:=by
 cases ex with
 |normal=>exact wpIn_skip h
 |exit id=>exact wpIn_exit h
 |ret=>exact wpIn_ret h
theorem rng_ok {X:Exec}(hst:StatOk (KP P) P T X) {g:Operand} {ps:Array Tmp} {assign body:Code} {f:Opd}(hf:copd g=some f) {A B:AC} {ann1 ann1' ann2 ann2':Ann}(hcA:comp P N assign ann1=some (A,ann1'))(hcB:comp P N body ann2=some (B,ann2'))
 (nA:noRng assign=true) (nB:noRng body=true) (hps: ∀t∈ps.toList,t<N) {site:Nat} {ex:Ex} {e':Env} {s':Stk} (h:step T X (.rng site ps.toList A B f) e s=some (ex,e',s')) {F:Fence} (hF:Wide F) (hro:F.round=none) {n:Nat} (hp:Pre P N w0 e s a w γ):
 (Code.rangeFunc g ps assign body).wpIn F n P (CodePost (KP P) N w0 (dep s) s.length w γ ex e' s') a w:=by
 simp only[step]at h
 split at h
 ·rename_i hc
  obtain⟨hn,hs⟩:=hc
  split at h
  ·rename_i gf first cap hfe
   split at h
   ·rename_i v s1 hen
    have hg:=hp.env.opd hf
    rw[hfe]at hg
    cases hgv:a.eval g with
    |func fn us ws=>
      rw[hgv]at hg
      cases hg with
      |fn _ _ _ _ _ e1 e2 k1 k2=>
        have la:LR s.length w γ first us.toList:=⟨by simpa using e1,fun i v u hv hu=>k1 i v u hv (by simpa using hu)⟩
        have lb:LR s.length w γ cap ws.toList:=⟨by simpa using e2,fun i v u hv hu=>k2 i v u hv (by simpa using hu)⟩
        refine wpIn_rangeFunc fun fn _=> ?_
        rw[hro]
        have hn':sget s (dep s) (16*site+7)=none:=by simpa using hn
        have hd:=dep_succ hs
        obtain⟨r,hr⟩: ∃r:Loop,r= {state:= .ready,pending:=none,fn,tmps:=a.tmps,params:=ps,assign,body,defers:=w.heap.size}:=⟨_,rfl⟩
        obtain⟨w1,hw1⟩: ∃w1,w1=(w.alloc (.deferred (some []))).alloc (.loop r):=⟨_,rfl⟩
        obtain⟨γ1,hγ1⟩: ∃γ1,γ1=γ.set (dep s) (16*site+7) (.obj (w.heap.size+1)):=⟨_,rfl⟩
        have x0:Ext s.length w γ w γ1:=by rw[hγ1];exact Ext.name _ w γ (hp.stk.none _ _ hn') (fun b off h=>by simp[GE.owns]at h;omega)
        have x1:Ext s.length w γ w1 γ1:=by
         rw[hw1]
         refine(x0.trans (Ext.alloc _ w γ1 _ (by rw[hγ1];exact hp.stk.frn_set _ _ _))).trans (Ext.alloc _ _ γ1 _ ?_)
         intro l g b h1 h2
         have:=hp.stk.frn_set (dep s) (16*site+7) (.obj (w.heap.size+1)) l g b (by rw[←hγ1];exact h1) h2
         simp;omega
        have hblk:w1.heap[w.heap.size+1]? =some (.loop r):=by
         rw[hw1];have:=World.alloc_heap_new (w.alloc (.deferred (some []))) (.loop r);rwa [World.size_alloc]at this
        have hmark:w1.heap[w.heap.size]? =some (.deferred (some [])):=by
         rw[hw1];exact(heap_alloc_old _ _ _ (by simp)).trans (World.alloc_heap_new w _)
        have hold: ∀b,b<w.heap.size→w1.heap[b]? =w.heap[b]? :=fun b hb=>by
         rw[hw1];exact(heap_alloc_old _ _ _ (by simp;omega)).trans (heap_alloc_old _ _ _ hb)
        have hsame:γ1 (dep s) (16*site+7)=some (.obj (w.heap.size+1)):=by rw[hγ1,G.set_same]
        have hS1:SR (KP P) (sput s (dep s) (16*site+7) (.loop ps.toList A B e .ready none)) w1 γ1:=by
         refine hp.stk.step (by omega) x1 hγ1 ⟨w.heap.size+1,r,hsame,hblk,?_,fun t=> ?_,?_⟩ ?_ ?_
         ·rw[hr];exact⟨rfl,⟨_,_,by rw[hp.size];exact hcA⟩,⟨_,_,by rw[hp.size];exact hcB⟩,nA,nB,by rw[hp.size];exact hps⟩
         ·rw[hd,hr];exact(hp.env t).ext x1
         ·rw[hr];exact⟨rfl,rfl⟩
         ·intro d' l' g' b _ hg' hb
          exact hold b (hp.stk.blk_lt hg' hb)
         ·intro b hb d' l' g' _ hg' hb'
          simp[GE.blk]at hb
          have:=hp.stk.blk_lt hg' hb'
          omega
        have hlr:LR (sput s (dep s) (16*site+7) (.loop ps.toList A B e .ready none)).length w1 γ1 (first ++[.yld (dep s) (16*site+7)] ++cap) (us ++ #[Value.func (.yield (w.heap.size+1)) #[] #[]] ++ws).toList:=by
         rw[sput_length]
         have:=((la.ext x1).append (LR.cons (.yld (dep s) (16*site+7) (w.heap.size+1) (by omega) hsame) LR.nil)).append (lb.ext x1)
         simpa using this
        obtain⟨hent,hcall⟩:=hst gf _ 0 _ v s1 hen
        have hcall:=hcall w1 γ1 _ hlr hS1
        rw[Array.toArray_toList]at hcall
        refine⟨w.heap.size+1,[{target:= .collected w.heap.size,args:= #[]}],w1,{target:= .fn (.func gf) ws,args:=us ++ #[.func (.yield (w.heap.size+1)) #[] #[]]},w1,gf,us ++ #[.func (.yield (w.heap.size+1)) #[] #[]] ++ws,w1,?_,?_,?_,?_,?_,?_⟩
        ·rw[hw1,hr];exact run_enterLoop_outer _ _ _ _ _
        ·simp only[resolve,hgv,Deferred.ofValue,Sem.run_pure]
         simp[Act.eval]
        ·intro f' _;exact hF.fn f'
        ·simp only[invoke]
         exact hent _ w1
        ·intro hx;rw[hF.depth]at hx;cases hx
        ·refine(hF.calls hcall).mono ?_
         rintro en w3 ⟨u,γ3,rfl,_,hS3,x3,l3⟩
         rw[sput_length]at x3 l3
         have ho3:=x3.obj (dep s) (16*site+7) (w.heap.size+1) (by omega) hsame
         have mk1:Marks w0 γ1 ({target:= .collected w.heap.size,args:= #[]}::a.defers) w1:=by
          have hm:=hp.marks.ext x1
          refine⟨?_,fun d hd'=> ?_⟩
          ·simp only[List.map_cons,List.nodup_cons]
           refine⟨fun hin=> ?_,hm.1⟩
           obtain⟨d,hd1,hd2⟩:=List.mem_map.1 hin
           obtain⟨q,hq1,_,hq3,_⟩:=hp.marks.2 d hd1
           rw[hq1]at hd2;cases hd2
           have:=(Array.getElem?_eq_some_iff.1 hq3).1
           omega
          ·cases hd' with
           |head=>
             refine⟨w.heap.size,rfl,hp.w0,hmark,fun off ho=> ?_⟩
             rw[hγ1]at ho
             rcases own_set ho with h1|⟨d',l',g',h1,h2⟩
             ·simp[GE.owns]at h1
             ·have:=hp.stk.blk_lt h1 (GE.owns_blk h2);omega
           |tail _ h'=>exact hm.2 d h'
         have fin: ∀(ps':List Nat) (A' B':AC) (env:Env) (st:LoopState) (pend:Option Ex),sget s1 (dep s) (16*site+7)=some (.loop ps' A' B' env st pend)→st≠ .busy→ex=pend.getD .normal→e'=e→s'=sput s1 (dep s) (16*site+7) (.loop ps' A' B' [] .exhausted pend)→
          rangePost F n P (w.heap.size+1) (CodePost (KP P) N w0 (dep s) s.length w γ ex e' s') {a with defers:=[{target:= .collected w.heap.size,args:= #[]}] ++a.defers} (.returned u) w3:=by
          intro ps' A' B' env st pend hg' hst hex he hs'
          obtain⟨b,q,z1,z2,z3,z4,z5,z6⟩:=hS3.loop hg'
          rw[ho3]at z1;cases z1
          refine⟨q.pending,_,run_endLoop z2 (by rw[z5];exact hst),?_⟩
          obtain⟨y1,y2⟩:=loop_turn_e hS3 hg' ho3 z2 .exhausted pend (r':= {q with state:= .exhausted}) (by cases q;simp_all) (env':=[]) (fun _=> .inr rfl)
          have xall:Ext s.length w γ (w3.putObj (w.heap.size+1) (.loop {q with state:= .exhausted})) γ3:=(x1.trans x3).trans (y2.mono (by omega))
          have post:CodePost (KP P) N w0 (dep s) s.length w γ ex e' s' ex.out {a with defers:=[{target:= .collected w.heap.size,args:= #[]}] ++a.defers} (w3.putObj (w.heap.size+1) (.loop {q with state:= .exhausted})):=by
           refine⟨rfl,γ3,hp.size,?_,by rw[hs'];exact y1,xall.mono (by omega),by rw[hs',sput_length,l3],(mk1.ext x3).ext y2⟩
           rw[he,hs',sput_length,l3]
           exact fun t=>(hp.env t).ext xall
          clear y1 y2 xall
          generalize w3.putObj (w.heap.size+1) (.loop {q with state:= .exhausted})=W4 at post⊢
          rw[z6]
          cases pend with
          |none=>simp only[Option.getD_none]at hex;subst hex;exact post
          |some x=>
            simp only[Option.getD_some]at hex;subst hex
            exact wpIn_code ex post
         split at h
         ·rename_i ps' A' B' env hg'
          simp only[Option.some.injEq,Prod.mk.injEq]at h
          obtain⟨h1,h2,h3⟩:=h
          exact fin _ _ _ _ _ _ hg' (by simp) h1.symm h2.symm h3.symm
         ·rename_i ps' A' B' env x hg'
          simp only[Option.some.injEq,Prod.mk.injEq]at h
          obtain⟨h1,h2,h3⟩:=h
          exact fin _ _ _ _ _ _ hg' (by simp) h1.symm h2.symm h3.symm
         ·cases h
    |_=>rw[hgv]at hg;cases hg
   ·cases h
  ·cases h
 ·cases h
def Exit.noGoto'(Q:Exit→Act→World→Prop):Exit→Act→World→Prop
 | .goto _,_,_=>False
 |e,a,w=>Q e a w
theorem stepR_scope {b:Frame} {k:List Item} {cs:List Frame} {c:Code}:Go.step P (lone (b.atR a (.code (.scope c)::k)) cs w)= .next (lone (b.atR a (.code c:: .inScope c::k)) cs w):=
 step_lone_go (by simp[stepG,stepG.exec,Frame.atR])
theorem stepR_inScope {b:Frame} {k:List Item} {cs:List Frame} {c:Code}:Go.step P (lone (b.atR a (.inScope c::k)) cs w)= .next (lone (b.atR a k) cs w):=
 step_lone_go (by simp[stepG,stepG.exec,Frame.atR])
theorem wpIn_scope {F:Fence} {n:Nat} {Q:Exit→Act→World→Prop} {c:Code}(h:c.wpIn F n P (Exit.noGoto' Q) a w):(Code.scope c).wpIn F n P Q a w:=by
 intro b k cs hro hb hr
 have h0:(lone (b.atR a (.code (.scope c)::k)) cs w).fenced P F:=fenced_calm hb hr rfl
 obtain⟨e,a₁,w₁,hq,harr⟩:=h b (.inScope c::k) cs hro hb hr
 cases e with
 |normal=>exact⟨.normal,a₁,w₁,hq, .head h0 stepR_scope (StepsIn.trans harr (.one (fenced_calm hb hr rfl) stepR_inScope))⟩
 |exit id'=>
   have hx:exitTo id' (.inScope c::k)=exitTo id' k:=by simp[exitTo]
   exact⟨.exit id',a₁,w₁,hq,fun k' hk=> .head h0 stepR_scope (harr.1 k' (by rw[hx];exact hk)),
    fun hr' hk=>let ⟨k₁,h1,h2⟩:=harr.2 hr' (by rw[hx];exact hk);⟨k₁,h1, .head h0 stepR_scope h2⟩⟩
 |goto l=>exact hq.elim
 |ret=>exact⟨_,a₁,w₁,hq, .of_steps (.one h0 stepR_scope) harr⟩
 |panic ch=>exact⟨_,a₁,w₁,hq, .of_steps (.one h0 stepR_scope) harr⟩
 |outgrown=>exact⟨_,a₁,w₁,hq, .of_steps (.one h0 stepR_scope) harr⟩
end
end Go.Ab

/-
  'exec' is right: the whole, but regions that draw.
-/
namespace Go.Ab
section
variable {P : Program} {T : Tab}
theorem CodePost.then {N w0 D L:Nat} {w:World} {γ:G} {ex:Ex} {e':Env} {s':Stk} {Q:Exit→Act→World→Prop} {K:Act→World→Prop} {x:Exit} {a':Act} {w':World}(h:CodePost (KP P) N w0 D L w γ ex e' s' x a' w')(hne:ex≠ .normal)(hQ:Q x a' w'):Exit.then K Q x a' w':=by
 have hx:=h.1
 cases ex with
 |normal=>exact absurd rfl hne
 |exit id=>subst hx;exact hQ
 |ret=>subst hx;exact hQ
theorem code_ok(tab:TabOk P T)(hd: ∀X,StatOk (KP P) P T X→YldOk (KP P) P T X→DrawOk P T X): ∀n,CodeOk P (exec T n):=by
 intro n
 induction n using Nat.strongRecOn with
 |_ k ih=>
 intro N c ann ac ann' hc e s ex e' s' h F hF hro n w0 w γ a hp
 cases c with
 |skip=>
   simp only[comp,Option.some.injEq,Prod.mk.injEq]at hc
   obtain⟨rfl,_⟩:=hc
   cases k with
   |zero=>cases h
   |succ k=>
     simp only[exec,step,Option.some.injEq,Prod.mk.injEq]at h
     obtain⟨rfl,rfl,rfl⟩:=h
     exact wpIn_skip (hp.post (Ext.refl _ _ _) rfl .normal)
 |label l=>
   simp only[comp,Option.some.injEq,Prod.mk.injEq]at hc
   obtain⟨rfl,_⟩:=hc
   cases k with
   |zero=>cases h
   |succ k=>
     simp only[exec,step,Option.some.injEq,Prod.mk.injEq]at h
     obtain⟨rfl,rfl,rfl⟩:=h
     exact wpIn_label (hp.post (Ext.refl _ _ _) rfl .normal)
 |exit id=>
   simp only[comp,Option.some.injEq,Prod.mk.injEq]at hc
   obtain⟨rfl,_⟩:=hc
   cases k with
   |zero=>cases h
   |succ k=>
     simp only[exec,step,Option.some.injEq,Prod.mk.injEq]at h
     obtain⟨rfl,rfl,rfl⟩:=h
     exact wpIn_exit (hp.post (Ext.refl _ _ _) rfl (.exit id))
 |ret=>
   simp only[comp,Option.some.injEq,Prod.mk.injEq]at hc
   obtain⟨rfl,_⟩:=hc
   cases k with
   |zero=>cases h
   |succ k=>
     simp only[exec,step,Option.some.injEq,Prod.mk.injEq]at h
     obtain⟨rfl,rfl,rfl⟩:=h
     exact wpIn_ret (hp.post (Ext.refl _ _ _) rfl .ret)
 |goto l=>simp[comp]at hc
 |refuse m=>simp[comp]at hc
 |region id ops d=>
   simp only[comp]at hc
   split at hc
   ·rename_i live lr hlive
    split at hc
    ·rename_i als hals
     cases d with
     |true=>
       simp only[if_true]at hc
       split at hc
       ·rename_i hpr
        simp only[Option.some.injEq,Prod.mk.injEq]at hc
        obtain⟨rfl,_⟩:=hc
        obtain⟨e1,s1,m,γ1,hm,h1,hp1,x1,l1⟩:=frozen_ok h hp
        cases m with
        |zero=>cases h1
        |succ m=>
          simp only[exec,step]at h1
          have hI:=ih m (by omega)
          have:=hd _ (stat_of_code tab hI) (yld_of_code hI) N id ops _ _ als live hals hpr _ _ _ _ _ h1 F hF n w0 w γ1 a hp1
          have hdep:dep s1=dep s:=by simp[dep,l1]
          rw[hdep,l1]at this
          exact wpIn_mono this fun x a1 w1 hq=>hq.weak x1
       ·cases hc
     |false=>
       simp only[Bool.false_eq_true,if_false,Option.some.injEq,Prod.mk.injEq]at hc
       obtain⟨rfl,_⟩:=hc
       obtain⟨e1,s1,m,γ1,hm,h1,hp1,x1,l1⟩:=frozen_ok h hp
       cases m with
       |zero=>cases h1
       |succ m=>
         simp only[exec,step]at h1
         split at h1
         ·rename_i e2 s2 h2
          simp only[Option.some.injEq,Prod.mk.injEq]at h1
          obtain⟨rfl,rfl,rfl⟩:=h1
          have hI:=ih m (by omega)
          refine region_sound (live:=live) (stat_of_code tab hI) (yld_of_code hI) hF hals h2 hp1.ne hp1.size hp1.env hp1.stk fun a' w' γ' st hl hdf=> ?_
          have hds:=dep_succ hp1.ne
          have hdep:dep s1=dep s:=by simp[dep,l1]
          exact⟨rfl,γ',st.size,st.env,st.stk,x1.trans (st.ext.mono (by omega)),by rw[hl,l1],by rw[hdf];exact hp1.marks.ext st.ext⟩
         ·cases h1
    ·cases hc
   ·cases hc
 |seq x y=>
   simp only[comp]at hc
   split at hc
   ·rename_i x' a1 hcx
    split at hc
    ·rename_i y' a2 hcy
     simp only[Option.some.injEq,Prod.mk.injEq]at hc
     obtain⟨hc,_⟩:=hc
     rcases mkSeq_cases x' y' with e0|⟨d,ops,live,tk,z,rfl,hz,e0⟩
     rotate_left
     ·rw[e0]at hc
      subst hc
      obtain⟨r0,c0,x0,y0,am,an,rfl,g1,g2,g3,g4⟩:=comp_seq_inv hz hcx
      cases k with
      |zero=>cases h
      |succ k=>
        have rr:F.round=none∨noRng r0=true:=hro.imp (fun h=>h) fun h=>by simp only[noRng,Bool.and_eq_true]at h;exact h.1.1
        have r1:F.round=none∨noRng x0=true:=hro.imp (fun h=>h) fun h=>by simp only[noRng,Bool.and_eq_true]at h;exact h.1.2.1
        have r2:F.round=none∨noRng y0=true:=hro.imp (fun h=>h) fun h=>by simp only[noRng,Bool.and_eq_true]at h;exact h.1.2.2
        have ry:F.round=none∨noRng y=true:=hro.imp (fun h=>h) fun h=>by simp only[noRng,Bool.and_eq_true]at h;exact h.2
        have retOf: ∀ {p:Nat} {e1:Env} {s1:Stk},exec T (p+1) (.only z) e1 s1=some (ex,e',s')→exec T p z e1 s1=some (ex,e',s')∧ex= .ret:=by
         intro p e1 s1 h
         simp only[exec,step,onlyRet]at h
         split at h
         ·rename_i e2 s2 h2
          simp only[Option.some.injEq,Prod.mk.injEq]at h
          obtain⟨rfl,rfl,rfl⟩:=h
          exact⟨h2,rfl⟩
         ·cases h
        simp only[exec,step]at h
        split at h
        ·rename_i e1 s1 h1
         refine wpIn_seq (wpIn_seq (wpIn_mono (ih k (by omega) _ _ _ _ _ g1 _ _ _ _ _ h1 F hF rr n w0 w γ a hp) fun q a1 w1 hq=> ?_))
         obtain⟨γ1,q1,q2,q3,q4⟩:=hq.pre hp.len hp.w0
         subst q4
         show(Code.cond c0 x0 y0).wpIn F n P _ a1 w1
         have hdep:dep s1=dep s:=by simp[dep,q3]
         have hv:=q1.env.opd g2
         have goRet: ∀ {p:Nat},p<k+1→a1.eval c0= .bool true→exec T p z e1 s1=some (ex,e',s')∧ex= .ret→(Code.cond c0 x0 y0).wpIn F n P (Exit.then (fun a' w'=>y.wpIn F n P (CodePost (KP P) N w0 (dep s) s.length w γ ex e' s') a' w') (CodePost (KP P) N w0 (dep s) s.length w γ ex e' s')) a1 w1:=by
          intro p hp2 hb ⟨hx,hret⟩
          subst hret
          have:=ih p hp2 _ _ _ _ _ g3 _ _ _ _ _ hx F hF r1 n w0 w1 γ1 a1 q1
          rw[hdep,q3]at this
          refine wpIn_cond_true hb (wpIn_mono this fun q a2 w2 hq2=> ?_)
          exact(hq2.weak q2).then (by intro h;cases h) (hq2.weak q2)
         have goOn: ∀ {p:Nat},p<k+1→0<k→a1.eval c0= .bool false→exec T p y' e1 s1=some (ex,e',s')→(Code.cond c0 x0 y0).wpIn F n P (Exit.then (fun a' w'=>y.wpIn F n P (CodePost (KP P) N w0 (dep s) s.length w γ ex e' s') a' w') (CodePost (KP P) N w0 (dep s) s.length w γ ex e' s')) a1 w1:=by
          intro p hp2 hk0 hb hx
          have hs:exec T 1 .skip e1 s1=some (.normal,e1,s1):=by simp only[exec,step]
          have:=ih 1 (by omega) _ _ _ _ _ g4 _ _ _ _ _ hs F hF r2 n w0 w1 γ1 a1 q1
          rw[hdep,q3]at this
          refine wpIn_cond_false hb (wpIn_mono this fun q a2 w2 hq2=> ?_)
          obtain⟨γ2,u1,u2,u3,u4⟩:=(hq2.weak q2).pre hp.len hp.w0
          subst u4
          show y.wpIn F n P _ a2 w2
          have hy:=ih p hp2 _ _ _ _ _ hcy _ _ _ _ _ hx F hF ry n w0 w2 γ2 a2 u1
          rw[hdep,q3]at hy
          exact wpIn_mono hy fun q a3 w3 hq3=>hq3.weak u2
         have eqv: ∀ {Q:Exit→Act→World→Prop},(Code.cond c0 x0 y0).wpIn F n P Q a1 w1→(Code.cond c0 x0 y0).wpIn F n P Q a1 w1:=fun h=>h
         refine wpIn_mono (Q:=Exit.then (fun a' w'=>y.wpIn F n P (CodePost (KP P) N w0 (dep s) s.length w γ ex e' s') a' w') (CodePost (KP P) N w0 (dep s) s.length w γ ex e' s')) ?_ fun q a2 w2 hq=>hq
         cases k with
         |zero=>cases h
         |succ m=>
           simp only[exec,step]at h
           split at h
           ·rename_i hb
            rw[hb]at hv
            cases m with
            |zero=>cases h
            |succ p=>exact goRet (p:=p) (by omega) hv.bool_inv (retOf h)
           ·rename_i hb
            rw[hb]at hv
            exact goOn (p:=m) (by omega) (by omega) hv.bool_inv h
           ·rename_i hb
            rw[hb]at hv
            split at h
            ·rename_i t1 t2 k1 k2
             split at h
             ·rename_i he
              subst he
              cases h
              generalize hu:a1.eval c0=u at hv
              cases hv with
              |anyb b=>
                cases b
                ·exact goOn (p:=m) (by omega) (by omega) hu k2
                ·cases m with
                 |zero=>cases k1
                 |succ p=>exact goRet (p:=p) (by omega) hu (retOf k1)
             ·cases h
            ·cases h
           ·cases h
        ·rename_i h1
         refine wpIn_seq (wpIn_seq (wpIn_mono (ih k (by omega) _ _ _ _ _ g1 _ _ _ _ _ h F hF rr n w0 w γ a hp) fun q a1 w1 hq=>hq.then (fun e0=> ?_) (hq.then (fun e0=> ?_) hq)))
         ·subst e0;exact h1 _ _ h
         ·subst e0;exact h1 _ _ h
     rw[e0]at hc
     subst hc
     cases k with
     |zero=>cases h
     |succ k=>
       have hI:=ih k (by omega)
       have rx:F.round=none∨noRng x=true:=hro.imp (fun h=>h) fun h=>by simp only[noRng,Bool.and_eq_true]at h;exact h.1
       have ry:F.round=none∨noRng y=true:=hro.imp (fun h=>h) fun h=>by simp only[noRng,Bool.and_eq_true]at h;exact h.2
       simp only[exec,step]at h
       split at h
       ·rename_i e1 s1 h1
        refine wpIn_seq (wpIn_mono (hI _ _ _ _ _ hcx _ _ _ _ _ h1 F hF rx n w0 w γ a hp) fun z a1 w1 hq=> ?_)
        obtain⟨γ1,q1,q2,q3,q4⟩:=hq.pre hp.len hp.w0
        subst q4
        show y.wpIn F n P _ a1 w1
        have:=hI _ _ _ _ _ hcy _ _ _ _ _ h F hF ry n w0 w1 γ1 a1 q1
        have hdep:dep s1=dep s:=by simp[dep,q3]
        rw[hdep,q3]at this
        exact wpIn_mono this fun z a2 w2 hq2=>hq2.weak q2
       ·rename_i h1
        refine wpIn_seq (wpIn_mono (hI _ _ _ _ _ hcx _ _ _ _ _ h F hF rx n w0 w γ a hp) fun z a1 w1 hq=>hq.then (fun e0=> ?_) hq)
        subst e0
        exact h1 _ _ h
    ·cases hc
   ·cases hc
 |cond c x y=>
   simp only[comp]at hc
   split at hc
   ·rename_i c' x' a1 hcc hcx
    split at hc
    ·rename_i y' a2 hcy
     simp only[Option.some.injEq,Prod.mk.injEq]at hc
     obtain⟨rfl,_⟩:=hc
     cases k with
     |zero=>cases h
     |succ k=>
       have hI:=ih k (by omega)
       have rx:F.round=none∨noRng x=true:=hro.imp (fun h=>h) fun h=>by simp only[noRng,Bool.and_eq_true]at h;exact h.1
       have ry:F.round=none∨noRng y=true:=hro.imp (fun h=>h) fun h=>by simp only[noRng,Bool.and_eq_true]at h;exact h.2
       have hv:=hp.env.opd hcc
       simp only[exec,step]at h
       split at h
       ·rename_i hb
        rw[hb]at hv
        exact wpIn_cond_true hv.bool_inv (hI _ _ _ _ _ hcx _ _ _ _ _ h F hF rx n w0 w γ a hp)
       ·rename_i hb
        rw[hb]at hv
        exact wpIn_cond_false hv.bool_inv (hI _ _ _ _ _ hcy _ _ _ _ _ h F hF ry n w0 w γ a hp)
       ·rename_i hb
        rw[hb]at hv
        split at h
        ·rename_i r1 r2 k1 k2
         split at h
         ·rename_i he
          subst he
          cases h
          generalize hu:a.eval c=u at hv
          cases hv with
          |anyb b=>
            cases b
            ·exact wpIn_cond_false hu (hI _ _ _ _ _ hcy _ _ _ _ _ k2 F hF ry n w0 w γ a hp)
            ·exact wpIn_cond_true hu (hI _ _ _ _ _ hcx _ _ _ _ _ k1 F hF rx n w0 w γ a hp)
         ·cases h
        ·cases h
       ·cases h
    ·cases hc
   ·cases hc
 |block id b=>
   simp only[comp]at hc
   split at hc
   ·rename_i b' a1 hcb
    simp only[Option.some.injEq,Prod.mk.injEq]at hc
    obtain⟨rfl,_⟩:=hc
    cases k with
    |zero=>cases h
    |succ k=>
      have hI:=ih k (by omega)
      have rb:F.round=none∨noRng b=true:=hro.imp (fun h=>h) fun h=>by simpa only[noRng]using h
      simp only[exec,step]at h
      split at h
      ·rename_i j e1 s1 h1
       simp only[Option.some.injEq,Prod.mk.injEq]at h
       obtain⟨rfl,rfl,rfl⟩:=h
       refine wpIn_block (wpIn_mono (hI _ _ _ _ _ hcb _ _ _ _ _ h1 F hF rb n w0 w γ a hp) fun z a1 w1 hq=> ?_)
       obtain⟨hz,hq⟩:=hq
       subst hz
       show Exit.inBlock id _ (.exit j) a1 w1
       simp only[Exit.inBlock]
       split
       ·rename_i hj;exact⟨rfl,hq⟩
       ·rename_i hj;exact⟨rfl,hq⟩
      ·rename_i h1
       refine wpIn_block (wpIn_mono (hI _ _ _ _ _ hcb _ _ _ _ _ h F hF rb n w0 w γ a hp) fun z a1 w1 hq=> ?_)
       have hz:=hq.1
       cases ex with
       |exit j=>exact absurd h (h1 _ _ _)
       |normal=>subst hz;exact hq
       |ret=>subst hz;exact hq
   ·cases hc
 |loop b=>
   simp only[comp]at hc
   split at hc
   ·rename_i la lr hla
    split at hc
    ·rename_i b' a1 hcb
     simp only[Option.some.injEq,Prod.mk.injEq]at hc
     obtain⟨rfl,_⟩:=hc
     have rb:F.round=none∨noRng b=true:=hro.imp (fun h=>h) fun h=>by simpa only[noRng]using h
     obtain⟨e1,s1,m,γ1,hm,h1,hp1,x1,l1⟩:=ghosts_ok la.gs h hp
     exact wpIn_loop_rounds m (loop_ok hcb hF rb hp.w0 m (fun j hj=>ih j (by omega)) h1 hp1 x1 (by simp[dep,l1]) l1)
    ·cases hc
   ·cases hc
 |scope b=>
   simp only[comp]at hc
   split at hc
   ·rename_i b' a1 hcb
    simp only[Option.some.injEq,Prod.mk.injEq]at hc
    obtain⟨rfl,_⟩:=hc
    cases k with
    |zero=>cases h
    |succ k=>
      have hI:=ih k (by omega)
      have rb:F.round=none∨noRng b=true:=hro.imp (fun h=>h) fun h=>by simpa only[noRng]using h
      simp only[exec,step]at h
      refine wpIn_scope (wpIn_mono (hI _ _ _ _ _ hcb _ _ _ _ _ h F hF rb n w0 w γ a hp) fun z a1 w1 hq=> ?_)
      have hz:=hq.1
      cases ex<;>(subst hz;exact hq)
   ·cases hc
 |rangeFunc f ps assign body=>
   simp only[comp]at hc
   split at hc
   ·rename_i site sr hsite
    split at hc
    ·rename_i f' A a1 hcf hcA
     split at hc
     ·rename_i B a2 hcB
      split at hc
      ·rename_i hcond
       simp only[Option.some.injEq,Prod.mk.injEq]at hc
       obtain⟨rfl,_⟩:=hc
       simp only[Bool.and_eq_true]at hcond
       cases k with
       |zero=>cases h
       |succ k=>
         have hI:=ih k (by omega)
         have hr0:F.round=none:=by
          rcases hro with h|h
          ·exact h
          ·simp[noRng]at h
         exact rng_ok (stat_of_code tab hI) hcf hcA hcB hcond.1.1 hcond.1.2 (fun t ht=>by have:=List.all_eq_true.1 hcond.2 t ht;simpa using this) h hF hr0 hp
      ·cases hc
     ·cases hc
    ·cases hc
   ·cases hc
end
end Go.Ab

/-
  Regions that draw their order: whatever order is drawn, the evaluator's answer stands.
  The plan: of a set D of operations that are done (closed under 'must come before') the state is: every variable, every entry as its last writer in D (in the order of the text) has left it.
  An operation that comes up is met in a state from which the entries of those that it need not wait for are hidden (names of others: G.hide); then they are brought back (G.back).
-/
namespace Go.Ab
def G.hide(γ:G)(d:Nat)(keep:List Nat):G:=fun d' l=>match d' with
 |some d'=>if d'=d∧l∉keep then none else γ d' l
 |none=>if l%2=0 then γ none (l/2)else if l/2∉keep then γ (some d) (l/2)else none
def G.back(γ1:G)(d:Nat)(keep:List Nat):G:=fun d' l=>match d' with
 |some d'=>if d'=d∧l∉keep then γ1 none (2*l+1)else γ1 d' l
 |none=>γ1 none (2*l)
section
variable {K : KK} {loc vis vis' : Loc} {rest : Stk} {w w' : World} {γ γ1 : G} {keep keep' : List Nat} {d : Nat}
theorem hide_even(l:Nat):γ.hide d keep none (2*l)=γ none l:=by simp[G.hide]
theorem hide_odd(l:Nat):γ.hide d keep none (2*l+1)=if l∉keep then γ (some d) l else none:=by
 simp only[G.hide]
 rw[if_neg (by omega),show(2*l+1)/2=l by omega]
theorem hide_seen {d' l:Nat}(h: ¬(d'=d∧l∉keep)):γ.hide d keep d' l=γ d' l:=by simp only[G.hide];rw[if_neg h]
theorem hide_hid {l:Nat}(h:l∉keep):γ.hide d keep (some d) l=none:=by simp[G.hide,h]
theorem hide_from {d':Option Nat} {l:Nat} {g:GE}(h:γ.hide d keep d' l=some g):(∃k,d'=some k∧ ¬(k=d∧l∉keep)∧γ (some k) l=some g)∨(∃m,d'=none∧l=2*m∧γ none m=some g)∨(∃m,d'=none∧l=2*m+1∧m∉keep∧γ (some d) m=some g):=by
 cases d' with
 |some k=>
   simp only[G.hide]at h
   split at h
   ·cases h
   ·rename_i hn;exact .inl ⟨k,rfl,hn,h⟩
 |none=>
   simp only[G.hide]at h
   split at h
   ·exact .inr (.inl ⟨l/2,rfl,by omega,h⟩)
   ·split at h
    ·rename_i h1 h2;exact .inr (.inr ⟨l/2,rfl,by omega,h2,h⟩)
    ·cases h
theorem own_hide: ∀b off,Own (γ.hide d keep) b off→Own γ b off:=by
 rintro b off ⟨d',l,g,h1,h2⟩
 rcases hide_from h1 with ⟨k,_,_,h⟩|⟨m,_,_,h⟩|⟨m,_,_,_,h⟩
 ·exact⟨_,_,g,h,h2⟩
 ·exact⟨_,_,g,h,h2⟩
 ·exact⟨_,_,g,h,h2⟩
theorem RenOk.hide {D:Nat}:RenOk (dropR d keep) D w γ D (γ.hide d keep) where
 p:=fun d' l o u h=>by
  simp only[dropR]
  split
  ·exact .undef _
  ·rename_i hn
   cases h with
   |ptr _ _ _ b hd hb=>exact .ptr _ _ _ b hd ((hide_seen hn).trans hb)
 c:=fun c sz base len cap h=>by
  cases c with
  |no=>trivial
  |full=>exact h
  |own d' l=>
    simp only[dropR,Cap.drop]
    split
    ·trivial
    ·rename_i hn
     obtain⟨hd,n,blk,h1,h2⟩:=h
     exact⟨hd,n,blk,(hide_seen hn).trans h1,h2⟩
 y:=fun d' l u h=>by
  simp only[dropR]
  split
  ·exact .undef _
  ·rename_i hn
   cases h with
   |yld _ _ b hd hb=>exact .yld _ _ b hd ((hide_seen hn).trans hb)
 a:=fun d' l z n o k u h=>by
  simp only[dropR]
  split
  ·exact .undef _
  ·rename_i hn
   cases h with
   |asl _ _ _ _ _ _ b k hd hb hle hk=>exact .asl _ _ _ _ _ _ b k hd ((hide_seen hn).trans hb) hle hk
   |aslnil _ _ _ base hd hb=>exact .aslnil _ _ _ base hd ((hide_seen hn).trans hb)
   |aslold _ _ _ _ _ _ N blk base ln cp hd hb hn2=>exact .aslold _ _ _ _ _ _ N blk base ln cp hd ((hide_seen hn).trans hb) hn2
   |aslh _ _ _ _ _ _ lo N f hd hb hn2 hle hk=>exact .aslh _ _ _ _ _ _ lo N f hd ((hide_seen hn).trans hb) hn2 hle hk
   |aslho _ _ _ _ _ _ lo N sz' f base ln cp hd hb hn2=>exact .aslho _ _ _ _ _ _ lo N sz' f base ln cp hd ((hide_seen hn).trans hb) hn2
 e:=fun d' l n i j u h=>by
  simp only[dropR]
  split
  ·exact .undef _
  ·rename_i hn
   cases h with
   |eptr _ _ _ _ _ b sz k hd hb=>exact .eptr _ _ _ _ _ b sz k hd ((hide_seen hn).trans hb)
   |eptrold _ _ _ _ _ N blk p hd hb hn2=>exact .eptrold _ _ _ _ _ N blk p hd ((hide_seen hn).trans hb) hn2
   |eptrh _ _ _ _ _ sz lo N f hd hb hn2=>exact .eptrh _ _ _ _ _ sz lo N f hd ((hide_seen hn).trans hb) hn2
   |eptrho _ _ _ _ _ lo N sz' f p hd hb hn2=>exact .eptrho _ _ _ _ _ lo N sz' f p hd ((hide_seen hn).trans hb) hn2
 own:=own_hide
theorem SR.hide(h:SR K (loc::rest) w γ)(hv: ∀l,l∈keep→vis.get l=loc.get l)(hn: ∀l,l∉keep→vis.get l=Option.none)(hfix:Loc.ren (dropR rest.length keep) vis=vis):SR K (vis::rest) w (γ.hide rest.length keep):=by
 refine⟨fun d l x hx=> ?_,fun d l hx=> ?_,?_,fun l g b h1 h2=> ?_⟩
 ·simp only[sget]at hx
  split at hx
  ·rename_i hd
   subst hd
   have hk:l∈keep:=by
    by_cases hk:l∈keep
    ·exact hk
    ·rw[hn l hk]at hx;cases hx
   have he:=h.ent rest.length l x (by simp[sget,←hv l hk,hx])
   have:=EnR.map he RenOk.hide (fun g hg=>(hide_seen (d:=rest.length) (keep:=keep) (fun e=>e.2 hk)).trans hg)
   have hfx:x.map (dropR rest.length keep)=x:=by
    have:=lget_ren (dropR rest.length keep) vis l
    rw[hfix,hx]at this
    simpa using this.symm
   rwa [hfx]at this
  ·rename_i hd
   have he:=h.ent d l x (by simp[sget,hd,hx])
   have hlt:=sget_lt hx
   exact he.restrict (fun d' l' g h' hg=>(hide_seen (by omega)).trans hg) own_hide
 ·simp only[sget]at hx
  split at hx
  ·rename_i hd
   subst hd
   by_cases hk:l∈keep
   ·rw[hide_seen (by simp[hk])]
    exact h.none _ l (by simpa [sget,←hv l hk]using hx)
   ·exact hide_hid hk
  ·rename_i hd
   rw[hide_seen (by omega)]
   exact h.none d l (by simp[sget,hd,hx])
 ·intro d1 l1 g1 d2 l2 g2 b h1 h2 b1 b2
  rcases hide_from h1 with ⟨k1,rfl,n1,q1⟩|⟨m1,rfl,rfl,q1⟩|⟨m1,rfl,rfl,n1,q1⟩<;>rcases hide_from h2 with ⟨k2,rfl,n2,q2⟩|⟨m2,rfl,rfl,q2⟩|⟨m2,rfl,rfl,n2,q2⟩
  all_goals have e:=h.inj _ _ _ _ _ _ b q1 q2 b1 b2
  ·exact e
  ·exact absurd e.1 (by simp)
  ·obtain⟨e1,rfl⟩:=e;cases e1;exact absurd ⟨rfl,n2⟩ n1
  ·exact absurd e.1 (by simp)
  ·exact⟨rfl,by rw[e.2]⟩
  ·exact absurd e.1 (by simp)
  ·obtain⟨e1,rfl⟩:=e;cases e1;exact absurd ⟨rfl,n1⟩ n2
  ·exact absurd e.1 (by simp)
  ·exact⟨rfl,by rw[e.2]⟩
 ·rcases hide_from h1 with ⟨k,e,_⟩|⟨m,_,_,hq⟩|⟨m,_,_,_,hq⟩
  ·cases e
  ·exact h.blk_lt hq h2
  ·exact h.blk_lt hq h2
theorem back_ok(h:SR K (loc::rest) w γ)(h1:SR K (vis'::rest) w' γ1)(hx:Ext (rest.length+1) w (γ.hide rest.length keep) w' γ1)(hk: ∀l,l∈keep→l∈keep')
 (hv': ∀l,l∉keep'→vis'.get l=none) (hnew: ∀l,l∈keep'→l∉keep→loc.get l=none) {loc':Loc} (hl1: ∀l,l∈keep'→loc'.get l=vis'.get l) (hl2: ∀l,l∉keep'→loc'.get l=loc.get l):
 SR K (loc'::rest) w' (γ1.back rest.length keep')∧Ext (rest.length+1) w γ w' (γ1.back rest.length keep')∧ ∀ {D:Nat} {v:V} {u:Value},VR D w' γ1 v u→VR D w' (γ1.back rest.length keep') v u:=by
 have g1none: ∀l,γ1 none l=γ.hide rest.length keep none l:=hx.frn
 have hγnew: ∀l,l∈keep'→l∉keep→γ rest.length l=none:=fun l h1' h2'=>h.none _ l (by simpa [sget]using hnew l h1' h2')
 have hidden: ∀l,l∉keep'→γ1.back rest.length keep' rest.length l=γ rest.length l:=by
  intro l hl
  simp only[G.back]
  rw[if_pos ⟨trivial,hl⟩,g1none,hide_odd,if_pos (fun hk'=>hl (hk l hk'))]
 have seen: ∀ {d' l:Nat},¬(d'=rest.length∧l∉keep')→γ1.back rest.length keep' d' l=γ1 d' l:=fun hn=>by simp only[G.back];rw[if_neg hn]
 have bnone: ∀l,γ1.back rest.length keep' none l=γ none l:=fun l=>by simp only[G.back];rw[g1none,hide_even]
 have sub: ∀(d' l:Nat) g,γ1 d' l=some g→γ1.back rest.length keep' d' l=some g:=by
  intro d' l g hg
  by_cases hn:d'=rest.length∧l∉keep'
  ·obtain⟨rfl,hn⟩:=hn
   rw[h1.none _ l (by simpa [sget]using hv' l hn)]at hg
   cases hg
  ·rw[seen hn];exact hg
 have from_: ∀ {d':Option Nat} {l:Nat} {g:GE},γ1.back rest.length keep' d' l=some g→(∃k,d'=some k∧ ¬(k=rest.length∧l∉keep')∧γ1 (some k) l=some g)∨(d'=some rest.length∧l∉keep'∧γ1 none (2*l+1)=some g)∨(d'=none∧γ1 none (2*l)=some g):=by
  intro d' l g hg
  cases d' with
  |none=>exact .inr (.inr ⟨rfl,hg⟩)
  |some k=>
    simp only[G.back]at hg
    split at hg
    ·rename_i hn;exact .inr (.inl ⟨by rw[hn.1],hn.2,hg⟩)
    ·rename_i hn;exact .inl ⟨k,rfl,hn,hg⟩
 have own1: ∀b off,Own (γ1.back rest.length keep') b off→Own γ1 b off:=by
  rintro b off ⟨d',l,g,q1,q2⟩
  rcases from_ q1 with ⟨k,_,_,hq⟩|⟨_,_,hq⟩|⟨_,hq⟩
  ·exact⟨_,_,g,hq,q2⟩
  ·exact⟨_,_,g,hq,q2⟩
  ·exact⟨_,_,g,hq,q2⟩
 have own2: ∀b off,Own γ1 b off→Own (γ1.back rest.length keep') b off:=by
  rintro b off ⟨d',l,g,q1,q2⟩
  cases d' with
  |some k=>exact⟨some k,l,g,sub k l g q1,q2⟩
  |none=>
    have q1':=q1
    rw[g1none]at q1
    rcases hide_from q1 with ⟨k,e,_⟩|⟨m,_,rfl,hq⟩|⟨m,_,rfl,hm,hq⟩
    ·cases e
    ·exact⟨none,m,g,(bnone m).trans hq,q2⟩
    ·have hm':m∉keep':=fun hm'=>by rw[hγnew m hm' hm]at hq;cases hq
     exact⟨some rest.length,m,g,(hidden m hm').trans hq,q2⟩
 have hVR: ∀ {D:Nat} {v:V} {u:Value},VR D w' γ1 v u→VR D w' (γ1.back rest.length keep') v u:=fun hv=>hv.restrict (Nat.le_refl _) (fun d' l g _ hg=>sub d' l g hg) own1
 have up: ∀ {d' l:Nat} {g:GE},d'<rest.length+1→γ d' l=some g→(γ.hide rest.length keep d' l=some g∧ ¬(d'=rest.length∧l∉keep'))∨(d'=rest.length∧l∉keep'):=by
  intro d' l g hd hg
  by_cases hn:d'=rest.length∧l∉keep'
  ·exact .inr hn
  ·refine .inl ⟨?_,hn⟩
   rw[hide_seen];exact hg
   rintro⟨rfl,hl⟩
   by_cases hl':l∈keep'
   ·rw[hγnew l hl' hl]at hg;cases hg
   ·exact hn ⟨rfl,hl'⟩
 have hx2:Ext (rest.length+1) w γ w' (γ1.back rest.length keep'):=by
  refine⟨hx.os,hx.tape,hx.output,hx.size,hx.drawn,fun d' l b hd hb=> ?_,fun d' l b hd hb=> ?_,fun d' l n blk hd hb=> ?_,fun d' l lo N sz f hd hb=> ?_,fun d' l n blk hd hb=> ?_,fun b off u hc hno=>hx.keep b off u hc (fun ho=>hno (own_hide b off ho)),
   fun b off hlt hno ho=>hx.free b off hlt (fun ho'=>hno (own_hide b off ho')) (own1 b off ho),fun b hlt hno=>hx.block b hlt (fun off ho=>hno off (own_hide b off ho)),bnone,fun l g b hg hb=>hx.fheap (2*l) g b ((hide_even l).trans hg) hb⟩
  ·rcases up hd hb with ⟨hq,hn⟩|⟨rfl,hn⟩
   ·rw[seen hn];exact hx.cell d' l b hd hq
   ·rw[hidden l hn];exact hb
  ·rcases up hd hb with ⟨hq,hn⟩|⟨rfl,hn⟩
   ·rw[seen hn];exact hx.obj d' l b hd hq
   ·rw[hidden l hn];exact hb
  ·rcases up hd hb with ⟨hq,hn⟩|⟨rfl,hn⟩
   ·rw[seen hn];exact hx.arr d' l n blk hd hq
   ·exact⟨n,blk,(hidden l hn).trans hb, .inl ⟨rfl,rfl⟩⟩
  ·rcases up hd hb with ⟨hq,hn⟩|⟨rfl,hn⟩
   ·rw[seen hn];exact hx.harr d' l lo N sz f hd hq
   ·exact⟨lo,N,f,(hidden l hn).trans hb,Nat.le_refl _,Nat.le_refl _,fun _ _ _=>rfl⟩
  ·rcases up hd hb with ⟨hq,hn⟩|⟨rfl,hn⟩
   ·rw[seen hn];exact hx.tok d' l n blk hd hq
   ·exact⟨n,blk,(hidden l hn).trans hb, .inl ⟨rfl,rfl⟩⟩
 refine⟨⟨fun d l x hs=> ?_,fun d l hs=> ?_,?_,fun l g b q1 q2=> ?_⟩,hx2,hVR⟩
 ·simp only[sget]at hs
  split at hs
  ·rename_i hd
   subst hd
   by_cases hl:l∈keep'
   ·rw[hl1 l hl]at hs
    have he:=h1.ent rest.length l x (by simp[sget,hs])
    exact he.restrict (fun d' l' g _ hg=>sub d' l' g hg) own1
   ·rw[hl2 l hl]at hs
    have he:=h.ent rest.length l x (by simp[sget,hs])
    refine he.ext (by omega) hx2 (hidden l hl) (fun g b hg hb=> ?_)
    exact hx.fheap (2*l+1) g b (by rw[hide_odd,if_pos (fun hk'=>hl (hk l hk'))];exact hg) hb
  ·rename_i hd
   have he:=h1.ent d l x (by simp[sget,hd,hs])
   exact he.restrict (fun d' l' g _ hg=>sub d' l' g hg) own1
 ·simp only[sget]at hs
  split at hs
  ·rename_i hd
   subst hd
   by_cases hl:l∈keep'
   ·rw[seen (by simp[hl])]
    exact h1.none _ l (by simp[sget,←hl1 l hl,hs])
   ·rw[hidden l hl]
    exact h.none _ l (by simp[sget,←hl2 l hl,hs])
  ·rename_i hd
   rw[seen (by omega)]
   exact h1.none d l (by simp[sget,hd,hs])
 ·intro d1 l1 g1 d2 l2 g2 b k1 k2 b1 b2
  rcases from_ k1 with ⟨m1,rfl,n1,q1⟩|⟨rfl,n1,q1⟩|⟨rfl,q1⟩<;>rcases from_ k2 with ⟨m2,rfl,n2,q2⟩|⟨rfl,n2,q2⟩|⟨rfl,q2⟩
  all_goals have e:=h1.inj _ _ _ _ _ _ b q1 q2 b1 b2
  ·exact e
  ·exact absurd e.1 (by simp)
  ·exact absurd e.1 (by simp)
  ·exact absurd e.1 (by simp)
  ·exact⟨rfl,by omega⟩
  ·exact absurd e.2 (by omega)
  ·exact absurd e.1 (by simp)
  ·exact absurd e.2 (by omega)
  ·exact⟨rfl,by omega⟩
 ·rw[bnone]at q1
  exact Nat.lt_of_lt_of_le (h.frn l g b q1 q2) hx.size
end
end Go.Ab

/-
  Regions that draw their order: the states between, and the theorem.
-/
namespace Go.Ab
def eAt(D:Nat→Bool):Nat→List Did→Env→Env
 |_,[],e=>e
 |j,r::rs,e=>eAt D (j+1) rs (if D j then setDst r.dst r.v e else e)
def lAt(D:Nat→Bool):Nat→List Did→Loc→Loc
 |_,[],loc=>loc
 |j,r::rs,loc=>lAt D (j+1) rs (if D j then patchAll r.patch loc else loc)
theorem patch_other: ∀(p:Loc) (loc:Loc) {l:Nat},l∉p.map (·.1)→(patchAll p loc).get l=loc.get l
 |[],_,_,_=>rfl
 |(k,x)::p,loc,l,h=>by
   simp only[List.map_cons,List.mem_cons,not_or]at h
   simp only[patchAll]
   rw[patch_other p _ h.2,lget_put_other _ _ h.1]
theorem patch_in: ∀(p:Loc) (loc loc':Loc) {l:Nat},l∈p.map (·.1)→(patchAll p loc).get l=(patchAll p loc').get l
 |[],_,_,_,h=>by simp at h
 |(k,x)::p,loc,loc',l,h=>by
   simp only[patchAll]
   by_cases hp:l∈p.map (·.1)
   ·exact patch_in p _ _ hp
   ·rw[patch_other p _ hp,patch_other p _ hp]
    simp only[List.map_cons,List.mem_cons]at h
    rcases h with h|h
    ·subst h;rw[lget_put_same,lget_put_same]
    ·exact absurd h hp
theorem patch_cong(p:Loc) {loc loc':Loc} {l:Nat}(h:loc.get l=loc'.get l):(patchAll p loc).get l=(patchAll p loc').get l:=by
 by_cases hp:l∈p.map (·.1)
 ·exact patch_in p _ _ hp
 ·rw[patch_other p _ hp,patch_other p _ hp,h]
theorem lget_none {loc:Loc} {l:Nat}(h:l∉loc.map (·.1)):loc.get l=none:=by
 induction loc with
 |nil=>rfl
 |cons x t ih=>
   obtain⟨k,x⟩:=x
   simp only[List.map_cons,List.mem_cons,not_or]at h
   simp only[Loc.get,if_neg h.1,ih h.2]
theorem lget_append {a b:Loc} {l:Nat}:(a ++b:Loc).get l=if l∈a.map (·.1)then a.get l else Loc.get b l:=by
 induction a with
 |nil=>simp
 |cons x t ih=>
   obtain⟨k,x⟩:=x
   simp only[List.cons_append,Loc.get,List.map_cons,List.mem_cons]
   by_cases h:l=k
   ·simp[h]
   ·simp only[h,if_false,false_or];exact ih
theorem patch_distinct: ∀(p loc:Loc),distinct (p.map (·.1))=true→ ∀l,l∈p.map (·.1)→(patchAll p loc).get l=p.get l
 |[],_,_,l,h=>by simp at h
 |(k,x)::p,loc,hd,l,h=>by
   simp only[List.map_cons,distinct,Bool.and_eq_true,Bool.not_eq_true',List.contains_eq_mem,decide_eq_false_iff_not]at hd
   simp only[patchAll,Loc.get]
   by_cases hk:l=k
   ·subst hk
    rw[patch_other p _ hd.1,lget_put_same,if_pos rfl]
   ·rw[if_neg hk]
    simp only[List.map_cons,List.mem_cons]at h
    rcases h with h|h
    ·exact absurd h hk
    ·exact patch_distinct p _ hd.2 l h
theorem distinct_append: ∀(a b:List Nat),distinct (a ++b)=true→distinct b=true∧ ∀l,l∈a→l∉b
 |[],b,h=>⟨h,fun l hl=>by simp at hl⟩
 |x::a,b,h=>by
   simp only[List.cons_append,distinct,Bool.and_eq_true,Bool.not_eq_true',List.contains_eq_mem,decide_eq_false_iff_not,List.mem_append,not_or]at h
   obtain⟨h1,h2⟩:=distinct_append a b h.2
   refine⟨h1,fun l hl=> ?_⟩
   simp only[List.mem_cons]at hl
   rcases hl with rfl|hl
   ·exact h.1.2
   ·exact h2 l hl
theorem eAt_skip(D:Nat→Bool)(t:Nat): ∀(rs:List Did) (j:Nat) (e:Env),(∀(k:Nat) r,rs[k]? =some r→D (j+k)=true→r.dst≠some t)→(eAt D j rs e).get t=e.get t
 |[],_,_,_=>rfl
 |r::rs,j,e,h=>by
   simp only[eAt]
   rw[eAt_skip D t rs (j+1) _ (fun k r' hk hD=>h (k+1) r' (by simpa using hk) (by rw[show j+(k+1)=j+1+k by omega];exact hD))]
   split
   ·rename_i hD
    have:=h 0 r rfl hD
    cases hd:r.dst with
    |none=>rfl
    |some d=>
      simp only[setDst,Env.get]
      rw[if_neg (fun e=>this (by rw[hd,e]))]
   ·rfl
theorem eAt_append(D:Nat→Bool): ∀(a b:List Did) (j:Nat) (e:Env),eAt D j (a ++b) e=eAt D (j+a.length) b (eAt D j a e)
 |[],b,j,e=>by simp[eAt]
 |r::a,b,j,e=>by
   simp only[List.cons_append,eAt,List.length_cons]
   rw[eAt_append D a b (j+1)]
   congr 1;omega
theorem lAt_append(D:Nat→Bool): ∀(a b:List Did) (j:Nat) (loc:Loc),lAt D j (a ++b) loc=lAt D (j+a.length) b (lAt D j a loc)
 |[],b,j,e=>by simp[lAt]
 |r::a,b,j,e=>by
   simp only[List.cons_append,lAt,List.length_cons]
   rw[lAt_append D a b (j+1)]
   congr 1;omega
theorem eAt_congr {D D':Nat→Bool}: ∀(rs:List Did) (j:Nat) (e:Env),(∀k,k<rs.length→D (j+k)=D' (j+k))→eAt D j rs e=eAt D' j rs e
 |[],_,_,_=>rfl
 |r::rs,j,e,h=>by
   simp only[eAt]
   have h0:=h 0 (by simp)
   simp only[Nat.add_zero]at h0
   rw[h0]
   exact eAt_congr rs (j+1) _ (fun k hk=>by have:=h (k+1) (by simp;omega);rwa [show j+(k+1)=j+1+k by omega]at this)
theorem lAt_congr {D D':Nat→Bool}: ∀(rs:List Did) (j:Nat) (loc:Loc),(∀k,k<rs.length→D (j+k)=D' (j+k))→lAt D j rs loc=lAt D' j rs loc
 |[],_,_,_=>rfl
 |r::rs,j,e,h=>by
   simp only[lAt]
   have h0:=h 0 (by simp)
   simp only[Nat.add_zero]at h0
   rw[h0]
   exact lAt_congr rs (j+1) _ (fun k hk=>by have:=h (k+1) (by simp;omega);rwa [show j+(k+1)=j+1+k by omega]at this)
theorem dEnv_all {pre:List Nat}: ∀(rs:List Did) (j:Nat) (e:Env),(∀k,k<rs.length→pre.contains (j+k)=true)→dEnv pre j rs e=eAt (fun _=>true) j rs e
 |[],_,_,_=>rfl
 |r::rs,j,e,h=>by
   have h0:=h 0 (by simp)
   simp only[Nat.add_zero]at h0
   simp only[dEnv,eAt,h0,if_true]
   exact dEnv_all rs (j+1) _ (fun k hk=>by have:=h (k+1) (by simp;omega);rwa [show j+(k+1)=j+1+k by omega]at this)
theorem dLoc_all {pre:List Nat}: ∀(rs:List Did) (j:Nat) (loc:Loc),(∀k,k<rs.length→pre.contains (j+k)=true)→dLoc pre j rs loc=lAt (fun _=>true) j rs loc
 |[],_,_,_=>rfl
 |r::rs,j,e,h=>by
   have h0:=h 0 (by simp)
   simp only[Nat.add_zero]at h0
   simp only[dLoc,lAt,h0,if_true]
   exact dLoc_all rs (j+1) _ (fun k hk=>by have:=h (k+1) (by simp;omega);rwa [show j+(k+1)=j+1+k by omega]at this)
def ELe(e1 e2:Env):Prop:= ∀t,e1.get t= .undef∨e1.get t=e2.get t
theorem ELe.set {e1 e2:Env}(h:ELe e1 e2)(dst:Option Nat)(v:V):ELe (setDst dst v e1) (setDst dst v e2):=by
 intro t
 cases dst with
 |none=>exact h t
 |some d=>simp only[setDst,Env.get];split<;>first|exact .inr rfl|exact h t
theorem ELe.hid {e1 e2:Env}(h:ELe e1 e2)(dst:Option Nat):ELe (setDst dst .undef e1) e2:=by
 intro t
 cases dst with
 |none=>exact h t
 |some d=>simp only[setDst,Env.get];split<;>first|exact .inl rfl|exact h t
theorem ELe.hid2 {e1 e2:Env}(h:ELe e1 e2)(dst:Option Nat)(v:V):ELe (setDst dst .undef e1) (setDst dst v e2):=by
 intro t
 cases dst with
 |none=>exact h t
 |some d=>simp only[setDst,Env.get];split<;>first|exact .inl rfl|exact h t
theorem dEnv_le {D:Nat→Bool} {pre:List Nat}: ∀(rs:List Did) (j:Nat) {e1 e2:Env},ELe e1 e2→(∀k,k<rs.length→pre.contains (j+k)=true→D (j+k)=true)→ELe (dEnv pre j rs e1) (eAt D j rs e2)
 |[],_,_,_,h,_=>h
 |r::rs,j,e1,e2,h,hp=>by
   simp only[dEnv,eAt]
   refine dEnv_le rs (j+1) ?_ (fun k hk=>by have:=hp (k+1) (by simp;omega);rwa [show j+(k+1)=j+1+k by omega]at this)
   have h0:=hp 0 (by simp)
   simp only[Nat.add_zero]at h0
   by_cases hc:pre.contains j=true
   ·rw[if_pos hc,if_pos (h0 hc)];exact h.set _ _
   ·rw[if_neg hc]
    split
    ·exact h.hid2 _ _
    ·exact h.hid _
theorem dHide_le {D:Nat→Bool} {i:Nat}: ∀(os:List AOper) (rs:List Did) (j:Nat) {e1 e2:Env},ELe e1 e2→os.length=rs.length→(∀(k:Nat) o r,os[k]? =some o→rs[k]? =some r→r.dst=o.dst∧(o.pre.contains i=true→D (j+k)=false))→ELe (dHide i os e1) (eAt D j rs e2)
 |[],[],_,_,_,h,_,_=>h
 |[],_::_,_,_,_,_,hl,_=>by simp at hl
 |_::_,[],_,_,_,_,hl,_=>by simp at hl
 |o::os,r::rs,j,e1,e2,h,hl,hp=>by
   simp only[dHide,eAt]
   refine dHide_le os rs (j+1) ?_ (by simpa using hl) (fun k o' r' h1 h2=>by
    have:=hp (k+1) o' r' (by simpa using h1) (by simpa using h2)
    rwa [show j+(k+1)=j+1+k by omega]at this)
   obtain⟨h1,h2⟩:=hp 0 o r rfl rfl
   simp only[Nat.add_zero]at h2
   by_cases hc:o.pre.contains i=true
   ·rw[if_pos hc,h2 hc];exact h
   ·rw[if_neg hc]
    split
    ·rw[←h1];exact h.hid2 _ _
    ·exact h.hid _
theorem dLoc_eq {D:Nat→Bool} {pre:List Nat} {l:Nat}: ∀(rs:List Did) (j:Nat) {loc1 loc2:Loc},loc1.get l=loc2.get l→(∀(k:Nat) r,rs[k]? =some r→(pre.contains (j+k)=true→D (j+k)=true)∧(pre.contains (j+k)=false→l∉r.patch.map (·.1)))→
 (dLoc pre j rs loc1).get l=(lAt D j rs loc2).get l
 |[],_,_,_,h,_=>h
 |r::rs,j,loc1,loc2,h,hp=>by
   simp only[dLoc,lAt]
   refine dLoc_eq rs (j+1) ?_ (fun k r' hk=>by
    have:=hp (k+1) r' (by simpa using hk)
    rwa [show j+(k+1)=j+1+k by omega]at this)
   obtain⟨h1,h2⟩:=hp 0 r rfl
   simp only[Nat.add_zero]at h1 h2
   by_cases hc:pre.contains j=true
   ·rw[if_pos hc,if_pos (h1 hc)];exact patch_cong _ h
   ·rw[if_neg hc]
    split
    ·rw[patch_other _ _ (h2 (by simpa using hc))];exact h
    ·exact h
theorem lAt_skip {D:Nat→Bool} {l:Nat}: ∀(rs:List Did) (j:Nat) (loc:Loc),(∀(k:Nat) r,rs[k]? =some r→D (j+k)=true→l∉r.patch.map (·.1))→(lAt D j rs loc).get l=loc.get l
 |[],_,_,_=>rfl
 |r::rs,j,loc,hp=>by
   simp only[lAt]
   rw[lAt_skip rs (j+1) _ (fun k r' hk hD=>hp (k+1) r' (by simpa using hk) (by rw[show j+(k+1)=j+1+k by omega];exact hD))]
   split
   ·rename_i hD;exact patch_other _ _ (hp 0 r rfl hD)
   ·rfl
theorem dHid_mem {pre:List Nat} {l:Nat}: ∀(rs:List Did) (j:Nat),l∉dHid pre j rs→ ∀(k:Nat) r,rs[k]? =some r→pre.contains (j+k)=false→l∉r.patch.map (·.1)
 |[],_,_,k,r,hk,_=>by simp at hk
 |r::rs,j,h,k,r',hk,hp=>by
   simp only[dHid,List.mem_append,not_or]at h
   cases k with
   |zero=>
     simp at hk;subst hk
     simp only[Nat.add_zero]at hp
     have h1:=h.1
     rw[hp]at h1
     simpa using h1
   |succ k=>exact dHid_mem rs (j+1) h.2 k r' (by simpa using hk) (by rwa [show j+1+k=j+(k+1)by omega])
theorem dApart_mem {dst:Option Nat} {patch:Loc} {pre:List Nat}: ∀(rs:List Did) (j:Nat),dApart dst patch pre j rs=true→ ∀(k:Nat) r,rs[k]? =some r→pre.contains (j+k)=false→
 (∀d,dst=some d→r.dst≠some d)∧ ∀l,l∈patch.map (·.1)→l∉r.seen∧l∉r.patch.map (·.1)
 |[],_,_,k,r,hk,_=>by simp at hk
 |r::rs,j,h,k,r',hk,hp=>by
   simp only[dApart,Bool.and_eq_true]at h
   cases k with
   |zero=>
     simp at hk;subst hk
     simp only[Nat.add_zero]at hp
     have h1:=h.1
     simp only[hp,Bool.false_or,Bool.and_eq_true]at h1
     refine⟨fun d hd=> ?_,fun l hl=> ?_⟩
     ·have:=h1.1;rw[hd]at this;simpa using this
     ·obtain⟨x,hx,rfl⟩:=List.mem_map.1 hl
      have:=List.all_eq_true.1 h1.2 x hx
      simpa using this
   |succ k=>exact dApart_mem rs (j+1) h.2 k r' (by simpa using hk) (by rwa [show j+1+k=j+(k+1)by omega])
structure Seen(T:Tab)(X:Exec)(loc0:Loc)(rest:Stk)(e0:Env)(l:List AOper)(rs:List Did)(i:Nat)(o:AOper)(r:Did):Prop where
 fix:Loc.ren (dropR rest.length (dSee o (rs.take i) loc0)) (dVis o (rs.take i) loc0)=dVis o (rs.take i) loc0
 run:gop T X o (dSeen o (l.drop (i+1)) i rest.length (rs.take i) loc0 e0) (dVis o (rs.take i) loc0) rest=some (r.v,r.patch)
 seen:r.seen=dSee o (rs.take i) loc0
structure Shown(T:Tab)(X:Exec)(loc0:Loc)(rest:Stk)(e0:Env)(l:List AOper)(rs:List Did)(i:Nat)(o:AOper)(r:Did):Prop where
 how:(o.isMove=true∧r.v=o.moved (dHide i (l.drop (i+1)) (dEnv o.pre 0 (rs.take i) e0))∧r.patch=[]∧r.seen=[])∨Seen T X loc0 rest e0 l rs i o r
 dst:r.dst=o.dst
 fresh: ∀k,k∈r.patch.map (·.1)→k∈r.seen∨(dLoc o.pre 0 (rs.take i) loc0).get k=none
 apart:dApart o.dst r.patch o.pre 0 (rs.take i)=true
theorem runDrawn_shown {T:Tab} {X:Exec} {loc0:Loc} {rest:Stk} {e0:Env}(L:List AOper): ∀(l:List AOper) (i:Nat) (rs0 rs:List Did),runDrawn T X loc0 rest e0 l i rs0=some rs→rs0.length=i→l=L.drop i→
 rs.take i=rs0∧rs.length=i+l.length∧ ∀(k:Nat) o,l[k]? =some o→ ∃r,rs[i+k]? =some r∧Shown T X loc0 rest e0 L rs (i+k) o r
 |[],i,rs0,rs,h,hl,hL=>by
   simp only[runDrawn,Option.some.injEq]at h
   subst h
   refine⟨by rw[←hl];simp,by simp[hl],fun k o hk=>by simp at hk⟩
 |o::os,i,rs0,rs,h,hl,hL=>by
   simp only[runDrawn]at h
   split at h
   ·rename_i hmv
    split at h
    ·rename_i hc
     have hos:os=L.drop (i+1):=by
      have:L.drop (i+1)=(L.drop i).drop 1:=by rw[List.drop_drop]
      rw[this,←hL];rfl
     obtain⟨h1,h2,h3⟩:=runDrawn_shown L os (i+1) _ rs h (by simp[hl]) hos
     have ht:rs.take i=rs0:=by
      have:rs.take i=(rs.take (i+1)).take i:=by rw[List.take_take];congr 1;omega
      rw[this,h1];simp[←hl]
     refine⟨ht,by rw[h2];simp;omega,fun k o' hk=> ?_⟩
     cases k with
     |zero=>
       simp at hk;subst hk
       refine⟨⟨o.dst,o.moved (dHide i os (dEnv o.pre 0 rs0 e0)),[],[]⟩,?_,?_⟩
       ·have:(rs.take (i+1))[i]? =some ⟨o.dst,o.moved (dHide i os (dEnv o.pre 0 rs0 e0)),[],[]⟩:=by rw[h1,List.getElem?_append_right (by omega)];simp[hl]
        rw[List.getElem?_take,if_pos (by omega)]at this
        exact this
       ·exact⟨.inl ⟨hmv,by rw[Nat.add_zero,ht,←hos],rfl,rfl⟩,rfl,fun k hk=>by simp at hk,by rw[Nat.add_zero,ht];exact hc⟩
     |succ k=>
       have:=h3 k o' (by simpa using hk)
       rwa [show i+1+k=i+(k+1)by omega]at this
    ·cases h
   split at h
   ·rename_i hfix
    split at h
    ·rename_i v patch hg
     split at h
     ·rename_i hc
      have hos:os=L.drop (i+1):=by
       have:L.drop (i+1)=(L.drop i).drop 1:=by rw[List.drop_drop]
       rw[this,←hL];rfl
      obtain⟨h1,h2,h3⟩:=runDrawn_shown L os (i+1) _ rs h (by simp[hl]) hos
      have ht:rs.take i=rs0:=by
       have:rs.take i=(rs.take (i+1)).take i:=by rw[List.take_take];congr 1;omega
       rw[this,h1];simp[←hl]
      refine⟨ht,by rw[h2];simp;omega,fun k o' hk=> ?_⟩
      cases k with
      |zero=>
        simp at hk;subst hk
        refine⟨⟨o.dst,v,patch,dSee o rs0 loc0⟩,?_,?_⟩
        ·have:(rs.take (i+1))[i]? =some ⟨o.dst,v,patch,dSee o rs0 loc0⟩:=by rw[h1,List.getElem?_append_right (by omega)];simp[hl]
         rw[List.getElem?_take,if_pos (by omega)]at this
         exact this
        ·simp only[Bool.and_eq_true]at hc
         refine⟨.inr ⟨by rw[Nat.add_zero,ht];exact hfix,by simp only[Nat.add_zero];rw[ht,←hos];exact hg,by rw[Nat.add_zero,ht]⟩,rfl,fun k hk=> ?_,by rw[Nat.add_zero,ht];exact hc.2⟩
         rw[Nat.add_zero,ht]
         obtain⟨x,hx,rfl⟩:=List.mem_map.1 hk
         have:=List.all_eq_true.1 hc.1 x hx
         simpa using this
      |succ k=>
        have:=h3 k o' (by simpa using hk)
        rwa [show i+1+k=i+(k+1)by omega]at this
     ·cases h
    ·cases h
   ·cases h
end Go.Ab

/-
  Regions that draw their order: 'DrawOk'.
-/
namespace Go.Ab
theorem compOpers_get {P:Program} {N:Nat} {muts:List Nat} {ops:Array Oper}: ∀ {l:List (Oper×Nat)} {als:List AOper},compOpers P N muts ops l=some als→als.length=l.length∧ ∀(k:Nat) x,l[k]? =some x→
 ∃ao m,als[k]? =some ao∧ao.dst=x.1.dst∧compOpM P m x.1=some ao.op∧(∀d,x.1.dst=some d→d<N)∧((x.1.guard=none∧ao.guard=none)∨ ∃g want slot,x.1.guard=some (g,want)∧(ops[g]?).bind (·.dst)=some slot∧ao.guard=some (slot,want))
 |[],als,h=>by simp[compOpers]at h;subst h;exact⟨rfl,fun k x hk=>by simp at hk⟩
 |(o,j)::l,als,h=>by
   simp only[compOpers]at h
   split at h
   ·rename_i op r h1 h2
    obtain⟨hl,hg⟩:=compOpers_get h2
    split at h
    ·rename_i hdst
     have hd: ∀d,o.dst=some d→d<N:=fun d hd=>by rw[hd]at hdst;simpa using hdst
     split at h
     ·rename_i hgd
      cases h
      refine⟨by simp[hl],fun k x hk=> ?_⟩
      cases k with
      |zero=>simp at hk;subst hk;exact⟨_,_,rfl,rfl,h1,hd, .inl ⟨hgd,rfl⟩⟩
      |succ k=>exact hg k x (by simpa using hk)
     ·rename_i g want hgd
      split at h
      ·rename_i slot hs
       cases h
       refine⟨by simp[hl],fun k x hk=> ?_⟩
       cases k with
       |zero=>simp at hk;subst hk;exact⟨_,_,rfl,rfl,h1,hd, .inr ⟨g,want,slot,hgd,hs,rfl⟩⟩
       |succ k=>exact hg k x (by simpa using hk)
      ·cases h
    ·cases h
   ·cases h
theorem drawn_get {al:List (Nat×Nat)} {als:List AOper} {ps:List (List Nat)}: ∀(l:List (AOper×Nat)),(drawn al als ps l).length=l.length∧ ∀(k:Nat) x,l[k]? =some x→ ∃o,(drawn al als ps l)[k]? =some o∧o.dst=x.1.dst∧o.op=x.1.op∧o.guard=x.1.guard∧o.pre=ps.getD x.2 []
 |[]=>⟨rfl,fun k x hk=>by simp at hk⟩
 |(o,i)::r=>by
   obtain⟨h1,h2⟩:=drawn_get (al:=al) (als:=als) (ps:=ps) r
   refine⟨by simp[drawn,h1],fun k x hk=> ?_⟩
   cases k with
   |zero=>simp at hk;subst hk;exact⟨_,rfl,rfl,rfl,rfl,rfl⟩
   |succ k=>exact h2 k x (by simpa using hk)
theorem presOk_get {ps:List (List Nat)}: ∀ {l:List Oper} {j:Nat},presOk l j ps=true→ ∀(k:Nat) o,l[k]? =some o→
 (∀i,i∈directs o→i<j+k∧i∈ps.getD (j+k) [])∧ ∀i,i∈ps.getD (j+k) []→i<j+k∧(i∈directs o∨ ∃q,q∈directs o∧i∈ps.getD q [])
 |[],_,_,k,o,hk=>by simp at hk
 |o::r,j,h,k,o',hk=>by
   simp only[presOk,Bool.and_eq_true]at h
   cases k with
   |zero=>
     simp at hk;subst hk
     refine⟨fun i hi=> ?_,fun i hi=> ?_⟩
     ·have:=List.all_eq_true.1 h.1.1 i hi
      simpa using this
     ·have:=List.all_eq_true.1 h.1.2 i hi
      simp only[Bool.and_eq_true,decide_eq_true_eq,Bool.or_eq_true,List.contains_eq_mem,List.any_eq_true]at this
      exact⟨this.1,this.2⟩
   |succ k=>
     have:=presOk_get h.2 k o' (by simpa using hk)
     rwa [show j+1+k=j+(k+1)by omega]at this
open Classical in
theorem dop_op1 {T:Tab} {X:Exec} {o:AOper} {e:Env} {vis:Loc} {rest:Stk} {v:V} {patch:Loc}(h:dop T X o e vis rest=some (v,patch)): ∃vis',op1 T X o e (vis::rest)=some (v,vis'::rest)∧ ∀l,vis'.get l=(patchAll patch vis).get l:=by
 have call:(match op1 T X o e (vis::rest)with
  |some (v,s')=>if s'=(vis ++(s'.headD []).drop vis.length)::rest∧distinct ((vis ++(s'.headD []).drop vis.length).map (·.1))=true then some (v,(s'.headD []).drop vis.length)else none
  |none=>none)=some (v,patch)→ ∃vis',op1 T X o e (vis::rest)=some (v,vis'::rest)∧ ∀l,vis'.get l=(patchAll patch vis).get l:=by
  intro h
  split at h
  ·rename_i v' s' h1
   split at h
   ·rename_i hc
    cases h
    obtain⟨hc1,hc2⟩:=hc
    refine⟨vis ++(s'.headD []).drop vis.length,by rw[h1,←hc1],fun l=> ?_⟩
    rw[List.map_append]at hc2
    obtain⟨d1,d2⟩:=distinct_append _ _ hc2
    rw[lget_append]
    split
    ·rename_i hl
     rw[patch_other _ _ (d2 l hl)]
    ·rename_i hl
     by_cases hn:l∈((s'.headD []).drop vis.length).map (·.1)
     ·rw[patch_distinct _ _ d1 l hn]
     ·rw[patch_other _ _ hn,lget_none hl,lget_none hn]
   ·cases h
  ·cases h
 cases hk:o.op.callOf with
 |static f a=>simp only[dop,hk]at h;exact call h
 |dyn f a=>simp only[dop,hk]at h;exact call h
 |other=>
   simp only[dop,hk]at h
   split at h
   ·rename_i v' h1
    cases h
    exact⟨vis,by simp only[op1,hk,h1,seff],fun l=>rfl⟩
   ·rename_i v' d l x h1
    split at h
    ·rename_i hd
     cases h
     refine⟨vis.put l x,?_,fun l'=>rfl⟩
     simp only[op1,hk,h1,seff,sput,hd,if_true]
    ·cases h
   ·cases h
theorem eAt_cong {D:Nat→Bool} {t:Nat}: ∀(rs:List Did) (j:Nat) {e1 e2:Env},e1.get t=e2.get t→(eAt D j rs e1).get t=(eAt D j rs e2).get t
 |[],_,_,_,h=>h
 |r::rs,j,e1,e2,h=>by
   simp only[eAt]
   refine eAt_cong rs (j+1) ?_
   split
   ·cases r.dst with
    |none=>exact h
    |some d=>simp only[setDst,Env.get];split<;>first|rfl|exact h
   ·exact h
theorem lAt_cong {D:Nat→Bool} {l:Nat}: ∀(rs:List Did) (j:Nat) {a b:Loc},a.get l=b.get l→(lAt D j rs a).get l=(lAt D j rs b).get l
 |[],_,_,_,h=>h
 |r::rs,j,a,b,h=>by
   simp only[lAt]
   refine lAt_cong rs (j+1) ?_
   split
   ·exact patch_cong _ h
   ·exact h
theorem SR.congr {K:KK} {loc loc':Loc} {rest:Stk} {w:World} {γ:G}(h:SR K (loc::rest) w γ)(he: ∀l,loc'.get l=loc.get l):SR K (loc'::rest) w γ:=by
 have hs: ∀d l,sget (loc'::rest) d l=sget (loc::rest) d l:=fun d l=>by simp only[sget];split<;>first|exact he l|rfl
 exact⟨fun d l x hx=>h.ent d l x (by rw[←hs];exact hx),fun d l hx=>h.none d l (by rw[←hs];exact hx),h.inj,h.frn⟩
theorem vis_get {hid:List Nat} {loc:Loc} {l:Nat}:Loc.get (loc.filter fun x=> !hid.contains x.1) l=if l∈hid then none else loc.get l:=by
 induction loc with
 |nil=>simp[Loc.get]
 |cons x t ih=>
   obtain⟨k,x⟩:=x
   simp only[List.filter_cons]
   by_cases hk:k∈hid
   ·simp only[List.contains_eq_mem,hk,decide_true,Bool.not_true,Bool.false_eq_true,if_false]
    simp only[List.contains_eq_mem]at ih
    rw[ih]
    simp only[Loc.get]
    by_cases hl:l=k
    ·subst hl;simp[hk]
    ·simp[hl]
   ·simp only[List.contains_eq_mem,hk,decide_false,Bool.not_false,if_true,Loc.get]
    simp only[List.contains_eq_mem]at ih
    by_cases hl:l=k
    ·subst hl;simp[hk]
    ·simp only[hl,if_false];exact ih
section
variable {P : Program} {T : Tab} {X : Exec} {N : Nat} {ops : Array Oper} {L : List AOper} {rs : List Did} {loc0 : Loc} {rest : Stk} {e0 : Env}
structure DInv(P:Program)(N:Nat)(rs:List Did)(loc0:Loc)(rest:Stk)(e0:Env)(ds:List Deferred)(wI:World)(γI:G)(D:Nat→Bool)(a:Act)(w:World)(γ:G):Prop where
 env:ER (rest.length+1) w γ (eAt D 0 rs e0) a
 stk:SR (KP P) (lAt D 0 rs loc0::rest) w γ
 size:a.tmps.size=N
 ext:Ext (rest.length+1) wI γI w γ
 defers:a.defers=ds
theorem draw_step(hst:StatOk (KP P) P T X)(hyl:YldOk (KP P) P T X) {F:Fence}(hF:Wide F) {n:Nat}(hlen:rs.length=L.length)
 (shown: ∀(j:Nat) o,L[j]? =some o→ ∃r,rs[j]? =some r∧Shown T X loc0 rest e0 L rs j o r)
 {ds:List Deferred} {wI:World} {γI:G} {D:Nat→Bool} {a:Act} {w:World} {γ:G} (inv:DInv P N rs loc0 rest e0 ds wI γI D a w γ)
 {i:Nat} {om:Oper} {o:AOper} (hom:ops[i]? =some om) (ho:L[i]? =some o) {m:Bool} (hop:compOpM P m om=some o.op) (hdst:o.dst=om.dst) (hN: ∀d,om.dst=some d→d<N)
 (hguard:(om.guard=none∧o.guard=none)∨ ∃g want slot,om.guard=some (g,want)∧(ops[g]?).bind (·.dst)=some slot∧o.guard=some (slot,want))
 (hDi:D i=false) (hpre: ∀j,j∈o.pre→D j=true) (hsucc: ∀(j:Nat) oj,L[j]? =some oj→D j=true→i∉oj.pre)
 {Q:Exit→Act→World→Prop} {K:Act→World→Prop} (hK: ∀a' w' γ',DInv P N rs loc0 rest e0 ds wI γI (fun j=>D j||j==i) a' w' γ'→K a' w'):wpOpIn F n P ops Q i K a w:=by
 obtain⟨r,hr,sh⟩:=shown i o ho
 have hilt:i<rs.length:=(List.getElem?_eq_some_iff.1 hr).1
 have hrs:rs=rs.take i ++r::rs.drop (i+1):=by
  have h1:=List.take_append_drop i rs
  rw[List.drop_eq_getElem_cons hilt]at h1
  have h2:rs[i]=r:=by
   have:=List.getElem?_eq_getElem hilt
   rw[hr]at this;exact(Option.some.inj this).symm
  rw[h2]at h1;exact h1.symm
 have htl:(rs.take i).length=i:=by simp;omega
 have eD: ∀D':Nat→Bool,eAt D' 0 rs e0=eAt D' (i+1) (rs.drop (i+1)) (if D' i then setDst r.dst r.v (eAt D' 0 (rs.take i) e0)else eAt D' 0 (rs.take i) e0):=by
  intro D'
  conv=>lhs;rw[hrs]
  rw[eAt_append,htl]
  simp only[Nat.zero_add,eAt]
 have lD: ∀D':Nat→Bool,lAt D' 0 rs loc0=lAt D' (i+1) (rs.drop (i+1)) (if D' i then patchAll r.patch (lAt D' 0 (rs.take i) loc0)else lAt D' 0 (rs.take i) loc0):=by
  intro D'
  conv=>lhs;rw[hrs]
  rw[lAt_append,htl]
  simp only[Nat.zero_add,lAt]
 have behind: ∀(k:Nat) rk,(rs.drop (i+1))[k]? =some rk→D (i+1+k)=true→(∀d,rk.dst=some d→r.dst≠some d)∧ ∀l,l∈rk.patch.map (·.1)→l∉r.seen∧l∉r.patch.map (·.1):=by
  intro k rk hk hD
  rw[List.getElem?_drop]at hk
  have hlt:i+1+k<L.length:=by rw[←hlen];exact(List.getElem?_eq_some_iff.1 hk).1
  have hLk:L[i+1+k]? =some L[i+1+k]:=by simp[hlt]
  obtain⟨rk',hrk',shk⟩:=shown _ _ hLk
  rw[hk]at hrk';cases hrk'
  have hnp:L[i+1+k].pre.contains (0+i)=false:=by simpa using hsucc _ _ hLk hD
  have hget:(rs.take (i+1+k))[i]? =some r:=by rw[List.getElem?_take,if_pos (by omega)];exact hr
  obtain⟨q1,q2⟩:=dApart_mem _ 0 shk.apart i r hget hnp
  exact⟨fun d hd=>q1 d (by rw[←shk.dst];exact hd),q2⟩
 have hle:ELe (dHide i (L.drop (i+1)) (dEnv o.pre 0 (rs.take i) e0)) (eAt D 0 rs e0):=by
  rw[eD D,hDi]
  simp only[Bool.false_eq_true,if_false]
  refine dHide_le _ _ _ (dEnv_le _ _ (fun t=> .inr rfl) (fun k _ hc=>hpre _ (by simpa using hc))) (by simp[hlen]) (fun k ok rk h1 h2=> ?_)
  rw[List.getElem?_drop]at h1 h2
  obtain⟨rk',hrk',shk⟩:=shown _ _ h1
  rw[h2]at hrk';cases hrk'
  refine⟨shk.dst,fun hc=> ?_⟩
  cases hD:D (i+1+k)with
  |false=>rfl
  |true=>exact absurd (by simpa using hc) (hsucc _ _ h1 hD)
 have hD': ∀k,k≠i→(D k||k==i)=D k:=fun k hk=>by simp[hk]
 have eD':eAt (fun j=>D j||j==i) 0 rs e0=eAt D (i+1) (rs.drop (i+1)) (setDst r.dst r.v (eAt D 0 (rs.take i) e0)):=by
  rw[eD]
  simp only[BEq.rfl,Bool.or_true,if_true]
  rw[eAt_congr (D':=D) (rs.drop (i+1)) (i+1) _ (fun k _=>hD' _ (by omega)),eAt_congr (D':=D) (rs.take i) 0 _ (fun k hk=>hD' _ (by rw[htl]at hk;omega))]
 have lD':lAt (fun j=>D j||j==i) 0 rs loc0=lAt D (i+1) (rs.drop (i+1)) (patchAll r.patch (lAt D 0 (rs.take i) loc0)):=by
  rw[lD]
  simp only[BEq.rfl,Bool.or_true,if_true]
  rw[lAt_congr (D':=D) (rs.drop (i+1)) (i+1) _ (fun k _=>hD' _ (by omega)),lAt_congr (D':=D) (rs.take i) 0 _ (fun k hk=>hD' _ (by rw[htl]at hk;omega))]
 have eD0:eAt D 0 rs e0=eAt D (i+1) (rs.drop (i+1)) (eAt D 0 (rs.take i) e0):=by rw[eD D,hDi];simp
 have lD0:lAt D 0 rs loc0=lAt D (i+1) (rs.drop (i+1)) (lAt D 0 (rs.take i) loc0):=by rw[lD D,hDi];simp
 have hsz: ∀d,om.dst=some d→d<a.tmps.size:=fun d hd=>by rw[inv.size];exact hN d hd
 have envAfter: ∀ {w':World} {γ':G} {u:Value},VR (rest.length+1) w' γ' r.v u→ER (rest.length+1) w' γ' (eAt D 0 rs e0) a→ER (rest.length+1) w' γ' (eAt (fun j=>D j||j==i) 0 rs e0) (a.put om.dst u):=by
  intro w' γ' u hv hE
  have hput:=ER.put hE hv hsz
  intro t
  have ht:=hput t
  rw[eD']
  have hrd:r.dst=om.dst:=sh.dst.trans hdst
  by_cases hd:om.dst=some t
  ·rw[eAt_skip _ t _ _ _ (fun k rk hk hD hrk=>(behind k rk hk hD).1 t hrk (by rw[hrd];exact hd))]
   rw[hd]at ht⊢
   rw[hrd,hd]
   simpa [setDst,Env.get]using ht
  ·have e1:(setDst om.dst r.v (eAt D 0 rs e0)).get t=(eAt D 0 rs e0).get t:=by
    cases hod:om.dst with
    |none=>rfl
    |some d=>simp only[setDst,Env.get];rw[if_neg (fun e=>hd (by rw[hod,e]))]
   rw[e1,eD0]at ht
   have e2:(setDst r.dst r.v (eAt D 0 (rs.take i) e0)).get t=(eAt D 0 (rs.take i) e0).get t:=by
    rw[hrd]
    cases hod:om.dst with
    |none=>rfl
    |some d=>simp only[setDst,Env.get];rw[if_neg (fun e=>hd (by rw[hod,e]))]
   rw[eAt_cong (rs.drop (i+1)) (i+1) e2]
   exact ht
 have hpd: ∀u,(a.put om.dst u).defers=ds:=fun u=>by rw[put_defers];exact inv.defers
 rcases sh.how with ⟨hmv,hv,hpatch,hsn⟩|shs
 ·obtain⟨dst,op,g,pre,hide⟩:=o
  simp only[AOper.isMove,Bool.and_eq_true]at hmv
  obtain⟨⟨_,hg⟩,hop1⟩:=hmv
  have hgn:g=none:=Option.isNone_iff_eq_none.1 hg
  subst hgn
  cases op<;>simp at hop1
  rename_i x
  have hgm:om.guard=none:=by
   rcases hguard with ⟨h,_⟩|⟨_,_,_,_,_,h⟩
   ·exact h
   ·cases h
  have hE:ER (rest.length+1) w γ (dHide i (L.drop (i+1)) (dEnv pre 0 (rs.take i) e0)) a:=by
   intro t
   rcases hle t with h|h
   ·rw[h];exact .undef _
   ·rw[h];exact inv.env t
  have hw:Region.wanted om (yielded ops a.tmps)=true:=by simp[Region.wanted,hgm]
  unfold wpOpIn
  rw[hom]
  dsimp only
  rw[if_pos hw]
  have h1:op1 T X ⟨dst, .mv x,none,pre,hide⟩ (dHide i (L.drop (i+1)) (dEnv pre 0 (rs.take i) e0)) (lAt D 0 rs loc0::rest)=some (r.v,lAt D 0 rs loc0::rest):=by
   rw[hv];rfl
  refine op1_sound hst hyl hF inv.stk hE (by simp) hop h1 (fun u w1 γ1 k1 k2 k3 _=> ?_)
  refine hK _ _ _ ⟨envAfter k1 (inv.env.ext k3),k2.congr (fun l=> ?_),by rw[put_size];exact inv.size,inv.ext.trans k3,hpd u⟩
  rw[lD',lD0,hpatch]
  rfl
 have hseen:r.seen=dSee o (rs.take i) loc0:=shs.seen
 have notyet: ∀l,(l∈r.seen∨l∈r.patch.map (·.1))→(lAt D 0 rs loc0).get l=(dLoc o.pre 0 (rs.take i) loc0).get l:=by
  intro l hl
  rw[lD D,hDi]
  simp only[Bool.false_eq_true,if_false]
  rw[lAt_skip _ _ _ (fun k rk hk hD hin=>by
   have:=(behind k rk hk hD).2 l hin
   rcases hl with hl|hl
   ·exact this.1 hl
   ·exact this.2 hl)]
  refine(dLoc_eq (rs.take i) 0 rfl (fun k rk hk=>⟨fun hc=>hpre _ (by simpa using hc),fun hc=> ?_⟩)).symm
  rcases hl with hl|hl
  ·rw[hseen]at hl
   unfold dSee dVis at hl
   obtain⟨x,hx,rfl⟩:=List.mem_map.1 hl
   have hx2:=(List.mem_filter.1 hx).2
   have:x.1∉dHid o.pre 0 (rs.take i):=by
    intro hin
    simp[hin]at hx2
   exact dHid_mem _ 0 this k rk hk hc
  ·exact((dApart_mem _ 0 sh.apart k rk hk hc).2 l hl).2
 have visget: ∀l,l∈r.seen→(dVis o (rs.take i) loc0).get l=(dLoc o.pre 0 (rs.take i) loc0).get l:=by
  intro l hl
  rw[hseen]at hl
  unfold dSee dVis at hl
  unfold dVis
  rw[vis_get]
  obtain⟨x,hx,rfl⟩:=List.mem_map.1 hl
  have hx2:=(List.mem_filter.1 hx).2
  rw[if_neg (by intro hin;simp at hx2;rcases List.mem_append.1 hin with h|h;exact hx2.1 h;exact hx2.2 h)]
 have visnone: ∀l,l∉r.seen→(dVis o (rs.take i) loc0).get l=none:=fun l hl=>lget_none (by rw[hseen]at hl;exact hl)
 have hfix:=shs.fix
 rw[←hseen]at hfix
 have hSv:SR (KP P) (dVis o (rs.take i) loc0::rest) w (γ.hide rest.length r.seen):=inv.stk.hide (fun l hl=>by rw[visget l hl,notyet l (.inl hl)]) visnone hfix
 have hEv:ER (rest.length+1) w (γ.hide rest.length r.seen) (dSeen o (L.drop (i+1)) i rest.length (rs.take i) loc0 e0) a:=by
  intro t
  unfold dSeen
  rw[env_ren,←hseen]
  rcases hle t with h|h
  ·rw[h];exact .undef _
  ·rw[h];exact VR.map' RenOk.hide _ _ (inv.env t)
 have hrun:=shs.run
 unfold wpOpIn
 rw[hom]
 dsimp only
 have ran:dop T X o (dSeen o (L.drop (i+1)) i rest.length (rs.take i) loc0 e0) (dVis o (rs.take i) loc0) rest=some (r.v,r.patch)→om.wpIn F n P a w K Q:=by
  intro hd
  obtain⟨vis',h1,h2⟩:=dop_op1 hd
  refine op1_sound hst hyl hF hSv hEv (by simp) hop h1 (fun u w1 γ1 k1 k2 k3 _=> ?_)
  have hk': ∀l,l∈r.seen→l∈r.seen ++r.patch.map (·.1):=fun l hl=>by simp[hl]
  obtain⟨b1,b2,b3⟩:=back_ok (keep:=r.seen) (keep':=r.seen ++r.patch.map (·.1)) inv.stk k2 k3 hk' (fun l hl=>by
   simp only[List.mem_append,not_or]at hl
   rw[h2,patch_other _ _ hl.2,visnone l hl.1]) (fun l hl hl'=>by
   have hlp:l∈r.patch.map (·.1):=by rcases List.mem_append.1 hl with h|h;exact absurd h hl';exact h
   rw[notyet l (.inr hlp)]
   rcases sh.fresh l hlp with h|h
   ·exact absurd h hl'
   ·exact h)
   (loc':=lAt (fun j=>D j||j==i) 0 rs loc0) (fun l hl=>by
    rw[lD',h2]
    have hl2:l∈r.seen∨l∈r.patch.map (·.1):=List.mem_append.1 hl
    rw[lAt_skip _ _ _ (fun k rk hk hD hin=>by
     have:=(behind k rk hk hD).2 l hin
     rcases hl2 with hl|hl
     ·exact this.1 hl
     ·exact this.2 hl)]
    by_cases hp:l∈r.patch.map (·.1)
    ·exact patch_in _ _ _ hp
    ·rw[patch_other _ _ hp,patch_other _ _ hp]
     have hs:l∈r.seen:=hl2.resolve_right hp
     rw[visget l hs,←notyet l (.inl hs),lD0]
     exact(lAt_skip _ _ _ (fun k rk hk hD hin=>((behind k rk hk hD).2 l hin).1 hs)).symm) (fun l hl=>by
    simp only[List.mem_append,not_or]at hl
    rw[lD',lD0]
    exact lAt_cong _ _ (patch_other _ _ hl.2))
  exact hK _ _ _ ⟨envAfter (b3 k1) (inv.env.ext b2),b1,by rw[put_size];exact inv.size,inv.ext.trans b2,hpd u⟩
 unfold gop at hrun
 rcases hguard with ⟨hg1,hg2⟩|⟨g,want,slot,hg1,hg2,hg3⟩
 ·rw[hg2]at hrun
  have hw:Region.wanted om (yielded ops a.tmps)=true:=by simp[Region.wanted,hg1]
  rw[if_pos hw]
  exact ran hrun
 ·rw[hg3]at hrun
  dsimp only at hrun
  split at hrun
  ·rename_i b hb
   have hy:=yielded_of hg2 hEv hb
   split at hrun
   ·rename_i hbw
    have hw:Region.wanted om (yielded ops a.tmps)=true:=by simp[Region.wanted,hg1,hy,hbw]
    rw[if_pos hw]
    exact ran hrun
   ·rename_i hbw
    have hw:Region.wanted om (yielded ops a.tmps)=false:=by simp[Region.wanted,hg1,hy,hbw]
    rw[if_neg (by simp[hw])]
    simp only[Option.some.injEq,Prod.mk.injEq]at hrun
    obtain⟨hrv,hrp⟩:=hrun
    refine⟨fun f _=>hF.fn f,hK _ _ _ ⟨envAfter (by rw[←hrv];exact .skip) inv.env,inv.stk.congr (fun l=> ?_),by rw[put_size];exact inv.size,inv.ext,hpd _⟩⟩
    rw[lD',lD0,←hrp]
    rfl
  ·rename_i hb
   have hy:=yielded_skip hg2 hEv hb
   have hw:Region.wanted om (yielded ops a.tmps)=false:=by simp[Region.wanted,hg1,hy]
   rw[if_neg (by simp[hw])]
   simp only[Option.some.injEq,Prod.mk.injEq]at hrun
   obtain⟨hrv,hrp⟩:=hrun
   refine⟨fun f _=>hF.fn f,hK _ _ _ ⟨envAfter (by rw[←hrv];exact .skip) inv.env,inv.stk.congr (fun l=> ?_),by rw[put_size];exact inv.size,inv.ext,hpd _⟩⟩
   rw[lD',lD0,←hrp]
   rfl
  ·cases hrun
end
end Go.Ab

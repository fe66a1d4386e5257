/-
  Regions that draw their order: whatever order is drawn, the evaluator's answer stands.
  The plan: of a set D of operations that are done (closed under 'must come before') the state is: every variable, every entry as its last writer in D (in the order of the text) has left it.
  An operation that comes up is met in a state from which the entries of those that it need not wait for are hidden (names of others: G.hide); then they are brought back (G.back).
-/
import Derived.Test.YtmgkcipcjabigaaGreatDoorAb5
import Derived.OrdersIn
import Derived.IntWalk
import Derived.OpenShut
import Derived.WalkKit
import Derived.ProofKit
import Derived.JoinedCond
set_option linter.unusedSimpArgs false
set_option linter.unusedVariables false
namespace Go.Ab
def G.hide(γ:G)(d:Nat)(keep:List Nat):G:=fun d' l=>match d' with
 |some d'=>if d'=d∧l∉keep then none else γ d' l
 |none=>if l%2=0 then γ none (l/2)else if l/2∉keep then γ (some d) (l/2)else none
def G.back(γ1:G)(d:Nat)(keep:List Nat):G:=fun d' l=>match d' with
 |some d'=>if d'=d∧l∉keep then γ1 none (2*l+1)else γ1 d' l
 |none=>γ1 none (2*l)
section
variable {K : KK} {loc vis vis' : Loc} {rest : Stk} {w w' : World} {γ γ1 : G} {keep keep' : List Nat} {d : Nat}
theorem hide_even(l:Nat):γ.hide d keep none (2*l)=γ none l:=by simp[G.hide]
theorem hide_odd(l:Nat):γ.hide d keep none (2*l+1)=if l∉keep then γ (some d) l else none:=by
 simp only[G.hide]
 rw[if_neg (by omega),show(2*l+1)/2=l by omega]
theorem hide_seen {d' l:Nat}(h: ¬(d'=d∧l∉keep)):γ.hide d keep d' l=γ d' l:=by simp only[G.hide];rw[if_neg h]
theorem hide_hid {l:Nat}(h:l∉keep):γ.hide d keep (some d) l=none:=by simp[G.hide,h]
theorem hide_from {d':Option Nat} {l:Nat} {g:GE}(h:γ.hide d keep d' l=some g):(∃k,d'=some k∧ ¬(k=d∧l∉keep)∧γ (some k) l=some g)∨(∃m,d'=none∧l=2*m∧γ none m=some g)∨(∃m,d'=none∧l=2*m+1∧m∉keep∧γ (some d) m=some g):=by
 cases d' with
 |some k=>
   simp only[G.hide]at h
   split at h
   ·cases h
   ·rename_i hn;exact .inl ⟨k,rfl,hn,h⟩
 |none=>
   simp only[G.hide]at h
   split at h
   ·exact .inr (.inl ⟨l/2,rfl,by omega,h⟩)
   ·split at h
    ·rename_i h1 h2;exact .inr (.inr ⟨l/2,rfl,by omega,h2,h⟩)
    ·cases h
theorem own_hide: ∀b off,Own (γ.hide d keep) b off→Own γ b off:=by
 rintro b off ⟨d',l,g,h1,h2⟩
 rcases hide_from h1 with ⟨k,_,_,h⟩|⟨m,_,_,h⟩|⟨m,_,_,_,h⟩
 ·exact⟨_,_,g,h,h2⟩
 ·exact⟨_,_,g,h,h2⟩
 ·exact⟨_,_,g,h,h2⟩
theorem RenOk.hide {D:Nat}:RenOk (dropR d keep) D w γ D (γ.hide d keep) where
 p:=fun d' l o u h=>by
  simp only[dropR]
  split
  ·exact .undef _
  ·rename_i hn
   cases h with
   |ptr _ _ _ b hd hb=>exact .ptr _ _ _ b hd ((hide_seen hn).trans hb)
 c:=fun c sz base len cap h=>by
  cases c with
  |no=>trivial
  |full=>exact h
  |own d' l=>
    simp only[dropR,Cap.drop]
    split
    ·trivial
    ·rename_i hn
     obtain⟨hd,n,blk,h1,h2⟩:=h
     exact⟨hd,n,blk,(hide_seen hn).trans h1,h2⟩
 y:=fun d' l u h=>by
  simp only[dropR]
  split
  ·exact .undef _
  ·rename_i hn
   cases h with
   |yld _ _ b hd hb=>exact .yld _ _ b hd ((hide_seen hn).trans hb)
 a:=fun d' l z n o k u h=>by
  simp only[dropR]
  split
  ·exact .undef _
  ·rename_i hn
   cases h with
   |asl _ _ _ _ _ _ b k hd hb hle hk=>exact .asl _ _ _ _ _ _ b k hd ((hide_seen hn).trans hb) hle hk
   |aslnil _ _ _ base hd hb=>exact .aslnil _ _ _ base hd ((hide_seen hn).trans hb)
   |aslold _ _ _ _ _ _ N blk base ln cp hd hb hn2=>exact .aslold _ _ _ _ _ _ N blk base ln cp hd ((hide_seen hn).trans hb) hn2
   |aslh _ _ _ _ _ _ lo N f hd hb hn2 hle hk=>exact .aslh _ _ _ _ _ _ lo N f hd ((hide_seen hn).trans hb) hn2 hle hk
   |aslho _ _ _ _ _ _ lo N sz' f base ln cp hd hb hn2=>exact .aslho _ _ _ _ _ _ lo N sz' f base ln cp hd ((hide_seen hn).trans hb) hn2
 e:=fun d' l n i j u h=>by
  simp only[dropR]
  split
  ·exact .undef _
  ·rename_i hn
   cases h with
   |eptr _ _ _ _ _ b sz k hd hb=>exact .eptr _ _ _ _ _ b sz k hd ((hide_seen hn).trans hb)
   |eptrold _ _ _ _ _ N blk p hd hb hn2=>exact .eptrold _ _ _ _ _ N blk p hd ((hide_seen hn).trans hb) hn2
   |eptrh _ _ _ _ _ sz lo N f hd hb hn2=>exact .eptrh _ _ _ _ _ sz lo N f hd ((hide_seen hn).trans hb) hn2
   |eptrho _ _ _ _ _ lo N sz' f p hd hb hn2=>exact .eptrho _ _ _ _ _ lo N sz' f p hd ((hide_seen hn).trans hb) hn2
 own:=own_hide
theorem SR.hide(h:SR K (loc::rest) w γ)(hv: ∀l,l∈keep→vis.get l=loc.get l)(hn: ∀l,l∉keep→vis.get l=Option.none)(hfix:Loc.ren (dropR rest.length keep) vis=vis):SR K (vis::rest) w (γ.hide rest.length keep):=by
 refine⟨fun d l x hx=> ?_,fun d l hx=> ?_,?_,fun l g b h1 h2=> ?_,h.glob.less fun b off=>own_hide b off⟩
 ·simp only[sget]at hx
  split at hx
  ·rename_i hd
   subst hd
   have hk:l∈keep:=by
    by_cases hk:l∈keep
    ·exact hk
    ·rw[hn l hk]at hx;cases hx
   have he:=h.ent rest.length l x (by simp[sget,←hv l hk,hx])
   have:=EnR.map he RenOk.hide (fun g hg=>(hide_seen (d:=rest.length) (keep:=keep) (fun e=>e.2 hk)).trans hg)
   have hfx:x.map (dropR rest.length keep)=x:=by
    have:=lget_ren (dropR rest.length keep) vis l
    rw[hfix,hx]at this
    simpa using this.symm
   rwa [hfx]at this
  ·rename_i hd
   have he:=h.ent d l x (by simp[sget,hd,hx])
   have hlt:=sget_lt hx
   exact he.restrict (fun d' l' g h' hg=>(hide_seen (by omega)).trans hg) own_hide
 ·simp only[sget]at hx
  split at hx
  ·rename_i hd
   subst hd
   by_cases hk:l∈keep
   ·rw[hide_seen (by simp[hk])]
    exact h.none _ l (by simpa [sget,←hv l hk]using hx)
   ·exact hide_hid hk
  ·rename_i hd
   rw[hide_seen (by omega)]
   exact h.none d l (by simp[sget,hd,hx])
 ·intro d1 l1 g1 d2 l2 g2 b h1 h2 b1 b2
  rcases hide_from h1 with ⟨k1,rfl,n1,q1⟩|⟨m1,rfl,rfl,q1⟩|⟨m1,rfl,rfl,n1,q1⟩<;>rcases hide_from h2 with ⟨k2,rfl,n2,q2⟩|⟨m2,rfl,rfl,q2⟩|⟨m2,rfl,rfl,n2,q2⟩
  all_goals have e:=h.inj _ _ _ _ _ _ b q1 q2 b1 b2
  ·exact e
  ·exact absurd e.1 (by simp)
  ·obtain⟨e1,rfl⟩:=e;cases e1;exact absurd ⟨rfl,n2⟩ n1
  ·exact absurd e.1 (by simp)
  ·exact⟨rfl,by rw[e.2]⟩
  ·exact absurd e.1 (by simp)
  ·obtain⟨e1,rfl⟩:=e;cases e1;exact absurd ⟨rfl,n1⟩ n2
  ·exact absurd e.1 (by simp)
  ·exact⟨rfl,by rw[e.2]⟩
 ·rcases hide_from h1 with ⟨k,e,_⟩|⟨m,_,_,hq⟩|⟨m,_,_,_,hq⟩
  ·cases e
  ·exact h.blk_lt hq h2
  ·exact h.blk_lt hq h2
theorem back_ok(h:SR K (loc::rest) w γ)(h1:SR K (vis'::rest) w' γ1)(hx:Ext (rest.length+1) w (γ.hide rest.length keep) w' γ1)(hk: ∀l,l∈keep→l∈keep')
 (hv': ∀l,l∉keep'→vis'.get l=none) (hnew: ∀l,l∈keep'→l∉keep→loc.get l=none) {loc':Loc} (hl1: ∀l,l∈keep'→loc'.get l=vis'.get l) (hl2: ∀l,l∉keep'→loc'.get l=loc.get l):
 SR K (loc'::rest) w' (γ1.back rest.length keep')∧Ext (rest.length+1) w γ w' (γ1.back rest.length keep')∧ ∀ {D:Nat} {v:V} {u:Value},VR D w' γ1 v u→VR D w' (γ1.back rest.length keep') v u:=by
 have g1none: ∀l,γ1 none l=γ.hide rest.length keep none l:=hx.frn
 have hγnew: ∀l,l∈keep'→l∉keep→γ rest.length l=none:=fun l h1' h2'=>h.none _ l (by simpa [sget]using hnew l h1' h2')
 have hidden: ∀l,l∉keep'→γ1.back rest.length keep' rest.length l=γ rest.length l:=by
  intro l hl
  simp only[G.back]
  rw[if_pos ⟨trivial,hl⟩,g1none,hide_odd,if_pos (fun hk'=>hl (hk l hk'))]
 have seen: ∀ {d' l:Nat},¬(d'=rest.length∧l∉keep')→γ1.back rest.length keep' d' l=γ1 d' l:=fun hn=>by simp only[G.back];rw[if_neg hn]
 have bnone: ∀l,γ1.back rest.length keep' none l=γ none l:=fun l=>by simp only[G.back];rw[g1none,hide_even]
 have sub: ∀(d' l:Nat) g,γ1 d' l=some g→γ1.back rest.length keep' d' l=some g:=by
  intro d' l g hg
  by_cases hn:d'=rest.length∧l∉keep'
  ·obtain⟨rfl,hn⟩:=hn
   rw[h1.none _ l (by simpa [sget]using hv' l hn)]at hg
   cases hg
  ·rw[seen hn];exact hg
 have from_: ∀ {d':Option Nat} {l:Nat} {g:GE},γ1.back rest.length keep' d' l=some g→(∃k,d'=some k∧ ¬(k=rest.length∧l∉keep')∧γ1 (some k) l=some g)∨(d'=some rest.length∧l∉keep'∧γ1 none (2*l+1)=some g)∨(d'=none∧γ1 none (2*l)=some g):=by
  intro d' l g hg
  cases d' with
  |none=>exact .inr (.inr ⟨rfl,hg⟩)
  |some k=>
    simp only[G.back]at hg
    split at hg
    ·rename_i hn;exact .inr (.inl ⟨by rw[hn.1],hn.2,hg⟩)
    ·rename_i hn;exact .inl ⟨k,rfl,hn,hg⟩
 have own1: ∀b off,Own (γ1.back rest.length keep') b off→Own γ1 b off:=by
  rintro b off ⟨d',l,g,q1,q2⟩
  rcases from_ q1 with ⟨k,_,_,hq⟩|⟨_,_,hq⟩|⟨_,hq⟩
  ·exact⟨_,_,g,hq,q2⟩
  ·exact⟨_,_,g,hq,q2⟩
  ·exact⟨_,_,g,hq,q2⟩
 have own2: ∀b off,Own γ1 b off→Own (γ1.back rest.length keep') b off:=by
  rintro b off ⟨d',l,g,q1,q2⟩
  cases d' with
  |some k=>exact⟨some k,l,g,sub k l g q1,q2⟩
  |none=>
    have q1':=q1
    rw[g1none]at q1
    rcases hide_from q1 with ⟨k,e,_⟩|⟨m,_,rfl,hq⟩|⟨m,_,rfl,hm,hq⟩
    ·cases e
    ·exact⟨none,m,g,(bnone m).trans hq,q2⟩
    ·have hm':m∉keep':=fun hm'=>by rw[hγnew m hm' hm]at hq;cases hq
     exact⟨some rest.length,m,g,(hidden m hm').trans hq,q2⟩
 have hVR: ∀ {D:Nat} {v:V} {u:Value},VR D w' γ1 v u→VR D w' (γ1.back rest.length keep') v u:=fun hv=>hv.restrict (Nat.le_refl _) (fun d' l g _ hg=>sub d' l g hg) own1
 have up: ∀ {d' l:Nat} {g:GE},d'<rest.length+1→γ d' l=some g→(γ.hide rest.length keep d' l=some g∧ ¬(d'=rest.length∧l∉keep'))∨(d'=rest.length∧l∉keep'):=by
  intro d' l g hd hg
  by_cases hn:d'=rest.length∧l∉keep'
  ·exact .inr hn
  ·refine .inl ⟨?_,hn⟩
   rw[hide_seen];exact hg
   rintro⟨rfl,hl⟩
   by_cases hl':l∈keep'
   ·rw[hγnew l hl' hl]at hg;cases hg
   ·exact hn ⟨rfl,hl'⟩
 have hx2:Ext (rest.length+1) w γ w' (γ1.back rest.length keep'):=by
  refine⟨hx.os,hx.tape,hx.output,hx.size,hx.drawn,fun d' l b hd hb=> ?_,fun d' l b hd hb=> ?_,fun d' l n blk hd hb=> ?_,fun d' l lo N sz f hd hb=> ?_,fun d' l n blk hd hb=> ?_,fun b off u hc hno=>hx.keep b off u hc (fun ho=>hno (own_hide b off ho)),
   fun b off hlt hno ho=>hx.free b off hlt (fun ho'=>hno (own_hide b off ho')) (own1 b off ho),fun b hlt hno=>hx.block b hlt (fun off ho=>hno off (own_hide b off ho)),bnone,fun l g b hg hb=>hx.fheap (2*l) g b ((hide_even l).trans hg) hb⟩
  ·rcases up hd hb with ⟨hq,hn⟩|⟨rfl,hn⟩
   ·rw[seen hn];exact hx.cell d' l b hd hq
   ·rw[hidden l hn];exact hb
  ·rcases up hd hb with ⟨hq,hn⟩|⟨rfl,hn⟩
   ·rw[seen hn];exact hx.obj d' l b hd hq
   ·rw[hidden l hn];exact hb
  ·rcases up hd hb with ⟨hq,hn⟩|⟨rfl,hn⟩
   ·rw[seen hn];exact hx.arr d' l n blk hd hq
   ·exact⟨n,blk,(hidden l hn).trans hb, .inl ⟨rfl,rfl⟩⟩
  ·rcases up hd hb with ⟨hq,hn⟩|⟨rfl,hn⟩
   ·rw[seen hn];exact hx.harr d' l lo N sz f hd hq
   ·exact⟨lo,N,f,(hidden l hn).trans hb,Nat.le_refl _,Nat.le_refl _,fun _ _ _=>rfl⟩
  ·rcases up hd hb with ⟨hq,hn⟩|⟨rfl,hn⟩
   ·rw[seen hn];exact hx.tok d' l n blk hd hq
   ·exact⟨n,blk,(hidden l hn).trans hb, .inl ⟨rfl,rfl⟩⟩
 refine⟨⟨fun d l x hs=> ?_,fun d l hs=> ?_,?_,fun l g b q1 q2=> ?_,h1.glob.less own1⟩,hx2,hVR⟩
 ·simp only[sget]at hs
  split at hs
  ·rename_i hd
   subst hd
   by_cases hl:l∈keep'
   ·rw[hl1 l hl]at hs
    have he:=h1.ent rest.length l x (by simp[sget,hs])
    exact he.restrict (fun d' l' g _ hg=>sub d' l' g hg) own1
   ·rw[hl2 l hl]at hs
    have he:=h.ent rest.length l x (by simp[sget,hs])
    refine he.ext (by omega) hx2 (hidden l hl) (fun g b hg hb=> ?_)
    exact hx.fheap (2*l+1) g b (by rw[hide_odd,if_pos (fun hk'=>hl (hk l hk'))];exact hg) hb
  ·rename_i hd
   have he:=h1.ent d l x (by simp[sget,hd,hs])
   exact he.restrict (fun d' l' g _ hg=>sub d' l' g hg) own1
 ·simp only[sget]at hs
  split at hs
  ·rename_i hd
   subst hd
   by_cases hl:l∈keep'
   ·rw[seen (by simp[hl])]
    exact h1.none _ l (by simp[sget,←hl1 l hl,hs])
   ·rw[hidden l hl]
    exact h.none _ l (by simp[sget,←hl2 l hl,hs])
  ·rename_i hd
   rw[seen (by omega)]
   exact h1.none d l (by simp[sget,hd,hs])
 ·intro d1 l1 g1 d2 l2 g2 b k1 k2 b1 b2
  rcases from_ k1 with ⟨m1,rfl,n1,q1⟩|⟨rfl,n1,q1⟩|⟨rfl,q1⟩<;>rcases from_ k2 with ⟨m2,rfl,n2,q2⟩|⟨rfl,n2,q2⟩|⟨rfl,q2⟩
  all_goals have e:=h1.inj _ _ _ _ _ _ b q1 q2 b1 b2
  ·exact e
  ·exact absurd e.1 (by simp)
  ·exact absurd e.1 (by simp)
  ·exact absurd e.1 (by simp)
  ·exact⟨rfl,by omega⟩
  ·exact absurd e.2 (by omega)
  ·exact absurd e.1 (by simp)
  ·exact absurd e.2 (by omega)
  ·exact⟨rfl,by omega⟩
 ·rw[bnone]at q1
  exact Nat.lt_of_lt_of_le (h.frn l g b q1 q2) hx.size
end
end Go.Ab

/-
  Regions that draw their order: the states between, and the theorem.
-/
namespace Go.Ab
def eAt(D:Nat→Bool):Nat→List Did→Env→Env
 |_,[],e=>e
 |j,r::rs,e=>eAt D (j+1) rs (if D j then setDst r.dst r.v e else e)
def lAt(D:Nat→Bool):Nat→List Did→Loc→Loc
 |_,[],loc=>loc
 |j,r::rs,loc=>lAt D (j+1) rs (if D j then patchAll r.patch loc else loc)
theorem patch_other: ∀(p:Loc) (loc:Loc) {l:Nat},l∉p.map (·.1)→(patchAll p loc).get l=loc.get l
 |[],_,_,_=>rfl
 |(k,x)::p,loc,l,h=>by
   simp only[List.map_cons,List.mem_cons,not_or]at h
   simp only[patchAll]
   rw[patch_other p _ h.2,lget_put_other _ _ h.1]
theorem patch_in: ∀(p:Loc) (loc loc':Loc) {l:Nat},l∈p.map (·.1)→(patchAll p loc).get l=(patchAll p loc').get l
 |[],_,_,_,h=>by simp at h
 |(k,x)::p,loc,loc',l,h=>by
   simp only[patchAll]
   by_cases hp:l∈p.map (·.1)
   ·exact patch_in p _ _ hp
   ·rw[patch_other p _ hp,patch_other p _ hp]
    simp only[List.map_cons,List.mem_cons]at h
    rcases h with h|h
    ·subst h;rw[lget_put_same,lget_put_same]
    ·exact absurd h hp
theorem patch_cong(p:Loc) {loc loc':Loc} {l:Nat}(h:loc.get l=loc'.get l):(patchAll p loc).get l=(patchAll p loc').get l:=by
 by_cases hp:l∈p.map (·.1)
 ·exact patch_in p _ _ hp
 ·rw[patch_other p _ hp,patch_other p _ hp,h]
theorem lget_none {loc:Loc} {l:Nat}(h:l∉loc.map (·.1)):loc.get l=none:=by
 induction loc with
 |nil=>rfl
 |cons x t ih=>
   obtain⟨k,x⟩:=x
   simp only[List.map_cons,List.mem_cons,not_or]at h
   simp only[Loc.get,if_neg h.1,ih h.2]
theorem lget_append {a b:Loc} {l:Nat}:(a ++b:Loc).get l=if l∈a.map (·.1)then a.get l else Loc.get b l:=by
 induction a with
 |nil=>simp
 |cons x t ih=>
   obtain⟨k,x⟩:=x
   simp only[List.cons_append,Loc.get,List.map_cons,List.mem_cons]
   by_cases h:l=k
   ·simp[h]
   ·simp only[h,if_false,false_or];exact ih
theorem patch_distinct: ∀(p loc:Loc),distinct (p.map (·.1))=true→ ∀l,l∈p.map (·.1)→(patchAll p loc).get l=p.get l
 |[],_,_,l,h=>by simp at h
 |(k,x)::p,loc,hd,l,h=>by
   simp only[List.map_cons,distinct,Bool.and_eq_true,Bool.not_eq_true',List.contains_eq_mem,decide_eq_false_iff_not]at hd
   simp only[patchAll,Loc.get]
   by_cases hk:l=k
   ·subst hk
    rw[patch_other p _ hd.1,lget_put_same,if_pos rfl]
   ·rw[if_neg hk]
    simp only[List.map_cons,List.mem_cons]at h
    rcases h with h|h
    ·exact absurd h hk
    ·exact patch_distinct p _ hd.2 l h
theorem distinct_append: ∀(a b:List Nat),distinct (a ++b)=true→distinct b=true∧ ∀l,l∈a→l∉b
 |[],b,h=>⟨h,fun l hl=>by simp at hl⟩
 |x::a,b,h=>by
   simp only[List.cons_append,distinct,Bool.and_eq_true,Bool.not_eq_true',List.contains_eq_mem,decide_eq_false_iff_not,List.mem_append,not_or]at h
   obtain⟨h1,h2⟩:=distinct_append a b h.2
   refine⟨h1,fun l hl=> ?_⟩
   simp only[List.mem_cons]at hl
   rcases hl with rfl|hl
   ·exact h.1.2
   ·exact h2 l hl
theorem eAt_skip(D:Nat→Bool)(t:Nat): ∀(rs:List Did) (j:Nat) (e:Env),(∀(k:Nat) r,rs[k]? =some r→D (j+k)=true→r.dst≠some t)→(eAt D j rs e).get t=e.get t
 |[],_,_,_=>rfl
 |r::rs,j,e,h=>by
   simp only[eAt]
   rw[eAt_skip D t rs (j+1) _ (fun k r' hk hD=>h (k+1) r' (by simpa using hk) (by rw[show j+(k+1)=j+1+k by omega];exact hD))]
   split
   ·rename_i hD
    have:=h 0 r rfl hD
    cases hd:r.dst with
    |none=>rfl
    |some d=>
      simp only[setDst,Env.get]
      rw[if_neg (fun e=>this (by rw[hd,e]))]
   ·rfl
theorem eAt_append(D:Nat→Bool): ∀(a b:List Did) (j:Nat) (e:Env),eAt D j (a ++b) e=eAt D (j+a.length) b (eAt D j a e)
 |[],b,j,e=>by simp[eAt]
 |r::a,b,j,e=>by
   simp only[List.cons_append,eAt,List.length_cons]
   rw[eAt_append D a b (j+1)]
   congr 1;omega
theorem lAt_append(D:Nat→Bool): ∀(a b:List Did) (j:Nat) (loc:Loc),lAt D j (a ++b) loc=lAt D (j+a.length) b (lAt D j a loc)
 |[],b,j,e=>by simp[lAt]
 |r::a,b,j,e=>by
   simp only[List.cons_append,lAt,List.length_cons]
   rw[lAt_append D a b (j+1)]
   congr 1;omega
theorem eAt_congr {D D':Nat→Bool}: ∀(rs:List Did) (j:Nat) (e:Env),(∀k,k<rs.length→D (j+k)=D' (j+k))→eAt D j rs e=eAt D' j rs e
 |[],_,_,_=>rfl
 |r::rs,j,e,h=>by
   simp only[eAt]
   have h0:=h 0 (by simp)
   simp only[Nat.add_zero]at h0
   rw[h0]
   exact eAt_congr rs (j+1) _ (fun k hk=>by have:=h (k+1) (by simp;omega);rwa [show j+(k+1)=j+1+k by omega]at this)
theorem lAt_congr {D D':Nat→Bool}: ∀(rs:List Did) (j:Nat) (loc:Loc),(∀k,k<rs.length→D (j+k)=D' (j+k))→lAt D j rs loc=lAt D' j rs loc
 |[],_,_,_=>rfl
 |r::rs,j,e,h=>by
   simp only[lAt]
   have h0:=h 0 (by simp)
   simp only[Nat.add_zero]at h0
   rw[h0]
   exact lAt_congr rs (j+1) _ (fun k hk=>by have:=h (k+1) (by simp;omega);rwa [show j+(k+1)=j+1+k by omega]at this)
theorem dEnv_all {pre:List Nat}: ∀(rs:List Did) (j:Nat) (e:Env),(∀k,k<rs.length→pre.contains (j+k)=true)→dEnv pre j rs e=eAt (fun _=>true) j rs e
 |[],_,_,_=>rfl
 |r::rs,j,e,h=>by
   have h0:=h 0 (by simp)
   simp only[Nat.add_zero]at h0
   simp only[dEnv,eAt,h0,if_true]
   exact dEnv_all rs (j+1) _ (fun k hk=>by have:=h (k+1) (by simp;omega);rwa [show j+(k+1)=j+1+k by omega]at this)
theorem dLoc_all {pre:List Nat}: ∀(rs:List Did) (j:Nat) (loc:Loc),(∀k,k<rs.length→pre.contains (j+k)=true)→dLoc pre j rs loc=lAt (fun _=>true) j rs loc
 |[],_,_,_=>rfl
 |r::rs,j,e,h=>by
   have h0:=h 0 (by simp)
   simp only[Nat.add_zero]at h0
   simp only[dLoc,lAt,h0,if_true]
   exact dLoc_all rs (j+1) _ (fun k hk=>by have:=h (k+1) (by simp;omega);rwa [show j+(k+1)=j+1+k by omega]at this)
def ELe(e1 e2:Env):Prop:= ∀t,e1.get t= .undef∨e1.get t=e2.get t
theorem ELe.set {e1 e2:Env}(h:ELe e1 e2)(dst:Option Nat)(v:V):ELe (setDst dst v e1) (setDst dst v e2):=by
 intro t
 cases dst with
 |none=>exact h t
 |some d=>simp only[setDst,Env.get];split<;>first|exact .inr rfl|exact h t
theorem ELe.hid {e1 e2:Env}(h:ELe e1 e2)(dst:Option Nat):ELe (setDst dst .undef e1) e2:=by
 intro t
 cases dst with
 |none=>exact h t
 |some d=>simp only[setDst,Env.get];split<;>first|exact .inl rfl|exact h t
theorem ELe.hid2 {e1 e2:Env}(h:ELe e1 e2)(dst:Option Nat)(v:V):ELe (setDst dst .undef e1) (setDst dst v e2):=by
 intro t
 cases dst with
 |none=>exact h t
 |some d=>simp only[setDst,Env.get];split<;>first|exact .inl rfl|exact h t
theorem dEnv_le {D:Nat→Bool} {pre:List Nat}: ∀(rs:List Did) (j:Nat) {e1 e2:Env},ELe e1 e2→(∀k,k<rs.length→pre.contains (j+k)=true→D (j+k)=true)→ELe (dEnv pre j rs e1) (eAt D j rs e2)
 |[],_,_,_,h,_=>h
 |r::rs,j,e1,e2,h,hp=>by
   simp only[dEnv,eAt]
   refine dEnv_le rs (j+1) ?_ (fun k hk=>by have:=hp (k+1) (by simp;omega);rwa [show j+(k+1)=j+1+k by omega]at this)
   have h0:=hp 0 (by simp)
   simp only[Nat.add_zero]at h0
   by_cases hc:pre.contains j=true
   ·rw[if_pos hc,if_pos (h0 hc)];exact h.set _ _
   ·rw[if_neg hc]
    split
    ·exact h.hid2 _ _
    ·exact h.hid _
theorem dHide_le {D:Nat→Bool} {i:Nat}: ∀(os:List AOper) (rs:List Did) (j:Nat) {e1 e2:Env},ELe e1 e2→os.length=rs.length→(∀(k:Nat) o r,os[k]? =some o→rs[k]? =some r→r.dst=o.dst∧(o.pre.contains i=true→D (j+k)=false))→ELe (dHide i os e1) (eAt D j rs e2)
 |[],[],_,_,_,h,_,_=>h
 |[],_::_,_,_,_,_,hl,_=>by simp at hl
 |_::_,[],_,_,_,_,hl,_=>by simp at hl
 |o::os,r::rs,j,e1,e2,h,hl,hp=>by
   simp only[dHide,eAt]
   refine dHide_le os rs (j+1) ?_ (by simpa using hl) (fun k o' r' h1 h2=>by
    have:=hp (k+1) o' r' (by simpa using h1) (by simpa using h2)
    rwa [show j+(k+1)=j+1+k by omega]at this)
   obtain⟨h1,h2⟩:=hp 0 o r rfl rfl
   simp only[Nat.add_zero]at h2
   by_cases hc:o.pre.contains i=true
   ·rw[if_pos hc,h2 hc];exact h
   ·rw[if_neg hc]
    split
    ·rw[←h1];exact h.hid2 _ _
    ·exact h.hid _
theorem dLoc_eq {D:Nat→Bool} {pre:List Nat} {l:Nat}: ∀(rs:List Did) (j:Nat) {loc1 loc2:Loc},loc1.get l=loc2.get l→(∀(k:Nat) r,rs[k]? =some r→(pre.contains (j+k)=true→D (j+k)=true)∧(pre.contains (j+k)=false→l∉r.patch.map (·.1)))→
 (dLoc pre j rs loc1).get l=(lAt D j rs loc2).get l
 |[],_,_,_,h,_=>h
 |r::rs,j,loc1,loc2,h,hp=>by
   simp only[dLoc,lAt]
   refine dLoc_eq rs (j+1) ?_ (fun k r' hk=>by
    have:=hp (k+1) r' (by simpa using hk)
    rwa [show j+(k+1)=j+1+k by omega]at this)
   obtain⟨h1,h2⟩:=hp 0 r rfl
   simp only[Nat.add_zero]at h1 h2
   by_cases hc:pre.contains j=true
   ·rw[if_pos hc,if_pos (h1 hc)];exact patch_cong _ h
   ·rw[if_neg hc]
    split
    ·rw[patch_other _ _ (h2 (by simpa using hc))];exact h
    ·exact h
theorem lAt_skip {D:Nat→Bool} {l:Nat}: ∀(rs:List Did) (j:Nat) (loc:Loc),(∀(k:Nat) r,rs[k]? =some r→D (j+k)=true→l∉r.patch.map (·.1))→(lAt D j rs loc).get l=loc.get l
 |[],_,_,_=>rfl
 |r::rs,j,loc,hp=>by
   simp only[lAt]
   rw[lAt_skip rs (j+1) _ (fun k r' hk hD=>hp (k+1) r' (by simpa using hk) (by rw[show j+(k+1)=j+1+k by omega];exact hD))]
   split
   ·rename_i hD;exact patch_other _ _ (hp 0 r rfl hD)
   ·rfl
theorem dHid_mem {pre:List Nat} {l:Nat}: ∀(rs:List Did) (j:Nat),l∉dHid pre j rs→ ∀(k:Nat) r,rs[k]? =some r→pre.contains (j+k)=false→l∉r.patch.map (·.1)
 |[],_,_,k,r,hk,_=>by simp at hk
 |r::rs,j,h,k,r',hk,hp=>by
   simp only[dHid,List.mem_append,not_or]at h
   cases k with
   |zero=>
     simp at hk;subst hk
     simp only[Nat.add_zero]at hp
     have h1:=h.1
     rw[hp]at h1
     simpa using h1
   |succ k=>exact dHid_mem rs (j+1) h.2 k r' (by simpa using hk) (by rwa [show j+1+k=j+(k+1)by omega])
theorem dApart_mem {dst:Option Nat} {patch:Loc} {pre:List Nat}: ∀(rs:List Did) (j:Nat),dApart dst patch pre j rs=true→ ∀(k:Nat) r,rs[k]? =some r→pre.contains (j+k)=false→
 (∀d,dst=some d→r.dst≠some d)∧ ∀l,l∈patch.map (·.1)→l∉r.seen∧l∉r.patch.map (·.1)
 |[],_,_,k,r,hk,_=>by simp at hk
 |r::rs,j,h,k,r',hk,hp=>by
   simp only[dApart,Bool.and_eq_true]at h
   cases k with
   |zero=>
     simp at hk;subst hk
     simp only[Nat.add_zero]at hp
     have h1:=h.1
     simp only[hp,Bool.false_or,Bool.and_eq_true]at h1
     refine⟨fun d hd=> ?_,fun l hl=> ?_⟩
     ·have:=h1.1;rw[hd]at this;simpa using this
     ·obtain⟨x,hx,rfl⟩:=List.mem_map.1 hl
      have:=List.all_eq_true.1 h1.2 x hx
      simpa using this
   |succ k=>exact dApart_mem rs (j+1) h.2 k r' (by simpa using hk) (by rwa [show j+1+k=j+(k+1)by omega])
structure Seen(T:Tab)(X:Exec)(loc0:Loc)(rest:Stk)(e0:Env)(l:List AOper)(rs:List Did)(i:Nat)(o:AOper)(r:Did):Prop where
 fix:Loc.ren (dropR rest.length (dSee o (rs.take i) loc0)) (dVis o (rs.take i) loc0)=dVis o (rs.take i) loc0
 run:gop T X o (dSeen o (l.drop (i+1)) i rest.length (rs.take i) loc0 e0) (dVis o (rs.take i) loc0) rest=some (r.v,r.patch)
 seen:r.seen=dSee o (rs.take i) loc0
structure Shown(T:Tab)(X:Exec)(loc0:Loc)(rest:Stk)(e0:Env)(l:List AOper)(rs:List Did)(i:Nat)(o:AOper)(r:Did):Prop where
 how:(o.isMove=true∧r.v=o.moved (dHide i (l.drop (i+1)) (dEnv o.pre 0 (rs.take i) e0))∧r.patch=[]∧r.seen=[])∨Seen T X loc0 rest e0 l rs i o r
 dst:r.dst=o.dst
 fresh: ∀k,k∈r.patch.map (·.1)→k∈r.seen∨(dLoc o.pre 0 (rs.take i) loc0).get k=none
 apart:dApart o.dst r.patch o.pre 0 (rs.take i)=true
theorem runDrawn_shown {T:Tab} {X:Exec} {loc0:Loc} {rest:Stk} {e0:Env}(L:List AOper): ∀(l:List AOper) (i:Nat) (rs0 rs:List Did),runDrawn T X loc0 rest e0 l i rs0=some rs→rs0.length=i→l=L.drop i→
 rs.take i=rs0∧rs.length=i+l.length∧ ∀(k:Nat) o,l[k]? =some o→ ∃r,rs[i+k]? =some r∧Shown T X loc0 rest e0 L rs (i+k) o r
 |[],i,rs0,rs,h,hl,hL=>by
   simp only[runDrawn,Option.some.injEq]at h
   subst h
   refine⟨by rw[←hl];simp,by simp[hl],fun k o hk=>by simp at hk⟩
 |o::os,i,rs0,rs,h,hl,hL=>by
   simp only[runDrawn]at h
   split at h
   ·rename_i hmv
    split at h
    ·rename_i hc
     have hos:os=L.drop (i+1):=by
      have:L.drop (i+1)=(L.drop i).drop 1:=by rw[List.drop_drop]
      rw[this,←hL];rfl
     obtain⟨h1,h2,h3⟩:=runDrawn_shown L os (i+1) _ rs h (by simp[hl]) hos
     have ht:rs.take i=rs0:=by
      have:rs.take i=(rs.take (i+1)).take i:=by rw[List.take_take];congr 1;omega
      rw[this,h1];simp[←hl]
     refine⟨ht,by rw[h2];simp;omega,fun k o' hk=> ?_⟩
     cases k with
     |zero=>
       simp at hk;subst hk
       refine⟨⟨o.dst,o.moved (dHide i os (dEnv o.pre 0 rs0 e0)),[],[]⟩,?_,?_⟩
       ·have:(rs.take (i+1))[i]? =some ⟨o.dst,o.moved (dHide i os (dEnv o.pre 0 rs0 e0)),[],[]⟩:=by rw[h1,List.getElem?_append_right (by omega)];simp[hl]
        rw[List.getElem?_take,if_pos (by omega)]at this
        exact this
       ·exact⟨.inl ⟨hmv,by rw[Nat.add_zero,ht,←hos],rfl,rfl⟩,rfl,fun k hk=>by simp at hk,by rw[Nat.add_zero,ht];exact hc⟩
     |succ k=>
       have:=h3 k o' (by simpa using hk)
       rwa [show i+1+k=i+(k+1)by omega]at this
    ·cases h
   split at h
   ·rename_i hfix
    split at h
    ·rename_i v patch hg
     split at h
     ·rename_i hc
      have hos:os=L.drop (i+1):=by
       have:L.drop (i+1)=(L.drop i).drop 1:=by rw[List.drop_drop]
       rw[this,←hL];rfl
      obtain⟨h1,h2,h3⟩:=runDrawn_shown L os (i+1) _ rs h (by simp[hl]) hos
      have ht:rs.take i=rs0:=by
       have:rs.take i=(rs.take (i+1)).take i:=by rw[List.take_take];congr 1;omega
       rw[this,h1];simp[←hl]
      refine⟨ht,by rw[h2];simp;omega,fun k o' hk=> ?_⟩
      cases k with
      |zero=>
        simp at hk;subst hk
        refine⟨⟨o.dst,v,patch,dSee o rs0 loc0⟩,?_,?_⟩
        ·have:(rs.take (i+1))[i]? =some ⟨o.dst,v,patch,dSee o rs0 loc0⟩:=by rw[h1,List.getElem?_append_right (by omega)];simp[hl]
         rw[List.getElem?_take,if_pos (by omega)]at this
         exact this
        ·simp only[Bool.and_eq_true]at hc
         refine⟨.inr ⟨by rw[Nat.add_zero,ht];exact hfix,by simp only[Nat.add_zero];rw[ht,←hos];exact hg,by rw[Nat.add_zero,ht]⟩,rfl,fun k hk=> ?_,by rw[Nat.add_zero,ht];exact hc.2⟩
         rw[Nat.add_zero,ht]
         obtain⟨x,hx,rfl⟩:=List.mem_map.1 hk
         have:=List.all_eq_true.1 hc.1 x hx
         simpa using this
      |succ k=>
        have:=h3 k o' (by simpa using hk)
        rwa [show i+1+k=i+(k+1)by omega]at this
     ·cases h
    ·cases h
   ·cases h
end Go.Ab

/-
  Regions that draw their order: 'DrawOk'.
-/
namespace Go.Ab
theorem compOpers_get {P:Program} {N:Nat} {muts:List Nat} {ops:Array Oper}: ∀ {l:List (Oper×Nat)} {als:List AOper},compOpers P N muts ops l=some als→als.length=l.length∧ ∀(k:Nat) x,l[k]? =some x→
 ∃ao m,als[k]? =some ao∧ao.dst=x.1.dst∧compOpM P m x.1=some ao.op∧(∀d,x.1.dst=some d→d<N)∧((x.1.guard=none∧ao.guard=none)∨ ∃g want slot,x.1.guard=some (g,want)∧(ops[g]?).bind (·.dst)=some slot∧ao.guard=some (slot,want))
 |[],als,h=>by simp[compOpers]at h;subst h;exact⟨rfl,fun k x hk=>by simp at hk⟩
 |(o,j)::l,als,h=>by
   simp only[compOpers]at h
   split at h
   ·rename_i op r h1 h2
    obtain⟨hl,hg⟩:=compOpers_get h2
    split at h
    ·rename_i hdst
     have hd: ∀d,o.dst=some d→d<N:=fun d hd=>by rw[hd]at hdst;simpa using hdst
     split at h
     ·rename_i hgd
      cases h
      refine⟨by simp[hl],fun k x hk=> ?_⟩
      cases k with
      |zero=>simp at hk;subst hk;exact⟨_,_,rfl,rfl,h1,hd, .inl ⟨hgd,rfl⟩⟩
      |succ k=>exact hg k x (by simpa using hk)
     ·rename_i g want hgd
      split at h
      ·rename_i slot hs
       cases h
       refine⟨by simp[hl],fun k x hk=> ?_⟩
       cases k with
       |zero=>simp at hk;subst hk;exact⟨_,_,rfl,rfl,h1,hd, .inr ⟨g,want,slot,hgd,hs,rfl⟩⟩
       |succ k=>exact hg k x (by simpa using hk)
      ·cases h
    ·cases h
   ·cases h
theorem drawn_get {al:List (Nat×Nat)} {als:List AOper} {ps:List (List Nat)}: ∀(l:List (AOper×Nat)),(drawn al als ps l).length=l.length∧ ∀(k:Nat) x,l[k]? =some x→ ∃o,(drawn al als ps l)[k]? =some o∧o.dst=x.1.dst∧o.op=x.1.op∧o.guard=x.1.guard∧o.pre=ps.getD x.2 []
 |[]=>⟨rfl,fun k x hk=>by simp at hk⟩
 |(o,i)::r=>by
   obtain⟨h1,h2⟩:=drawn_get (al:=al) (als:=als) (ps:=ps) r
   refine⟨by simp[drawn,h1],fun k x hk=> ?_⟩
   cases k with
   |zero=>simp at hk;subst hk;exact⟨_,rfl,rfl,rfl,rfl,rfl⟩
   |succ k=>exact h2 k x (by simpa using hk)
theorem presOk_get {ps:List (List Nat)}: ∀ {l:List Oper} {j:Nat},presOk l j ps=true→ ∀(k:Nat) o,l[k]? =some o→
 (∀i,i∈directs o→i<j+k∧i∈ps.getD (j+k) [])∧ ∀i,i∈ps.getD (j+k) []→i<j+k∧(i∈directs o∨ ∃q,q∈directs o∧i∈ps.getD q [])
 |[],_,_,k,o,hk=>by simp at hk
 |o::r,j,h,k,o',hk=>by
   simp only[presOk,Bool.and_eq_true]at h
   cases k with
   |zero=>
     simp at hk;subst hk
     refine⟨fun i hi=> ?_,fun i hi=> ?_⟩
     ·have:=List.all_eq_true.1 h.1.1 i hi
      simpa using this
     ·have:=List.all_eq_true.1 h.1.2 i hi
      simp only[Bool.and_eq_true,decide_eq_true_eq,Bool.or_eq_true,List.contains_eq_mem,List.any_eq_true]at this
      exact⟨this.1,this.2⟩
   |succ k=>
     have:=presOk_get h.2 k o' (by simpa using hk)
     rwa [show j+1+k=j+(k+1)by omega]at this
open Classical in
theorem dop_op1 {T:Tab} {X:Exec} {o:AOper} {e:Env} {vis:Loc} {rest:Stk} {v:V} {patch:Loc}(h:dop T X o e vis rest=some (v,patch)): ∃vis',op1 T X o e (vis::rest)=some (v,vis'::rest)∧ ∀l,vis'.get l=(patchAll patch vis).get l:=by
 have call:(match op1 T X o e (vis::rest)with
  |some (v,s')=>if s'=(vis ++(s'.headD []).drop vis.length)::rest∧distinct ((vis ++(s'.headD []).drop vis.length).map (·.1))=true then some (v,(s'.headD []).drop vis.length)else none
  |none=>none)=some (v,patch)→ ∃vis',op1 T X o e (vis::rest)=some (v,vis'::rest)∧ ∀l,vis'.get l=(patchAll patch vis).get l:=by
  intro h
  split at h
  ·rename_i v' s' h1
   split at h
   ·rename_i hc
    cases h
    obtain⟨hc1,hc2⟩:=hc
    refine⟨vis ++(s'.headD []).drop vis.length,by rw[h1,←hc1],fun l=> ?_⟩
    rw[List.map_append]at hc2
    obtain⟨d1,d2⟩:=distinct_append _ _ hc2
    rw[lget_append]
    split
    ·rename_i hl
     rw[patch_other _ _ (d2 l hl)]
    ·rename_i hl
     by_cases hn:l∈((s'.headD []).drop vis.length).map (·.1)
     ·rw[patch_distinct _ _ d1 l hn]
     ·rw[patch_other _ _ hn,lget_none hl,lget_none hn]
   ·cases h
  ·cases h
 cases hk:o.op.callOf with
 |static f a=>simp only[dop,hk]at h;exact call h
 |dyn f a=>simp only[dop,hk]at h;exact call h
 |other=>
   simp only[dop,hk]at h
   split at h
   ·rename_i v' h1
    cases h
    exact⟨vis,by simp only[op1,hk,h1,seff],fun l=>rfl⟩
   ·rename_i v' d l x h1
    split at h
    ·rename_i hd
     cases h
     refine⟨vis.put l x,?_,fun l'=>rfl⟩
     simp only[op1,hk,h1,seff,sput,hd,if_true]
    ·cases h
   ·cases h
theorem eAt_cong {D:Nat→Bool} {t:Nat}: ∀(rs:List Did) (j:Nat) {e1 e2:Env},e1.get t=e2.get t→(eAt D j rs e1).get t=(eAt D j rs e2).get t
 |[],_,_,_,h=>h
 |r::rs,j,e1,e2,h=>by
   simp only[eAt]
   refine eAt_cong rs (j+1) ?_
   split
   ·cases r.dst with
    |none=>exact h
    |some d=>simp only[setDst,Env.get];split<;>first|rfl|exact h
   ·exact h
theorem lAt_cong {D:Nat→Bool} {l:Nat}: ∀(rs:List Did) (j:Nat) {a b:Loc},a.get l=b.get l→(lAt D j rs a).get l=(lAt D j rs b).get l
 |[],_,_,_,h=>h
 |r::rs,j,a,b,h=>by
   simp only[lAt]
   refine lAt_cong rs (j+1) ?_
   split
   ·exact patch_cong _ h
   ·exact h
theorem SR.congr {K:KK} {loc loc':Loc} {rest:Stk} {w:World} {γ:G}(h:SR K (loc::rest) w γ)(he: ∀l,loc'.get l=loc.get l):SR K (loc'::rest) w γ:=by
 have hs: ∀d l,sget (loc'::rest) d l=sget (loc::rest) d l:=fun d l=>by simp only[sget];split<;>first|exact he l|rfl
 exact⟨fun d l x hx=>h.ent d l x (by rw[←hs];exact hx),fun d l hx=>h.none d l (by rw[←hs];exact hx),h.inj,h.frn,h.glob⟩
theorem vis_get {hid:List Nat} {loc:Loc} {l:Nat}:Loc.get (loc.filter fun x=> !hid.contains x.1) l=if l∈hid then none else loc.get l:=by
 induction loc with
 |nil=>simp[Loc.get]
 |cons x t ih=>
   obtain⟨k,x⟩:=x
   simp only[List.filter_cons]
   by_cases hk:k∈hid
   ·simp only[List.contains_eq_mem,hk,decide_true,Bool.not_true,Bool.false_eq_true,if_false]
    simp only[List.contains_eq_mem]at ih
    rw[ih]
    simp only[Loc.get]
    by_cases hl:l=k
    ·subst hl;simp[hk]
    ·simp[hl]
   ·simp only[List.contains_eq_mem,hk,decide_false,Bool.not_false,if_true,Loc.get]
    simp only[List.contains_eq_mem]at ih
    by_cases hl:l=k
    ·subst hl;simp[hk]
    ·simp only[hl,if_false];exact ih
section
variable {P : Program} {T : Tab} {X : Exec} {N : Nat} {ops : Array Oper} {L : List AOper} {rs : List Did} {loc0 : Loc} {rest : Stk} {e0 : Env}
structure DInv(P:Program)(N:Nat)(rs:List Did)(loc0:Loc)(rest:Stk)(e0:Env)(ds:List Deferred)(wI:World)(γI:G)(D:Nat→Bool)(a:Act)(w:World)(γ:G):Prop where
 env:ER (rest.length+1) w γ (eAt D 0 rs e0) a
 stk:SR (KP P) (lAt D 0 rs loc0::rest) w γ
 size:a.tmps.size=N
 ext:Ext (rest.length+1) wI γI w γ
 defers:a.defers=ds
theorem draw_step(hst:StatOk (KP P) P T X)(hyl:YldOk (KP P) P T X) {F:Fence}(hF:Wide F) {n:Nat}(hlen:rs.length=L.length)
 (shown: ∀(j:Nat) o,L[j]? =some o→ ∃r,rs[j]? =some r∧Shown T X loc0 rest e0 L rs j o r)
 {ds:List Deferred} {wI:World} {γI:G} {D:Nat→Bool} {a:Act} {w:World} {γ:G} (inv:DInv P N rs loc0 rest e0 ds wI γI D a w γ)
 {i:Nat} {om:Oper} {o:AOper} (hom:ops[i]? =some om) (ho:L[i]? =some o) {m:Bool} (hop:compOpM P m om=some o.op) (hdst:o.dst=om.dst) (hN: ∀d,om.dst=some d→d<N)
 (hguard:(om.guard=none∧o.guard=none)∨ ∃g want slot,om.guard=some (g,want)∧(ops[g]?).bind (·.dst)=some slot∧o.guard=some (slot,want))
 (hDi:D i=false) (hpre: ∀j,j∈o.pre→D j=true) (hsucc: ∀(j:Nat) oj,L[j]? =some oj→D j=true→i∉oj.pre)
 {Q:Exit→Act→World→Prop} {K:Act→World→Prop} (hK: ∀a' w' γ',DInv P N rs loc0 rest e0 ds wI γI (fun j=>D j||j==i) a' w' γ'→K a' w'):wpOpIn F n P ops Q i K a w:=by
 obtain⟨r,hr,sh⟩:=shown i o ho
 have hilt:i<rs.length:=(List.getElem?_eq_some_iff.1 hr).1
 have hrs:rs=rs.take i ++r::rs.drop (i+1):=by
  have h1:=List.take_append_drop i rs
  rw[List.drop_eq_getElem_cons hilt]at h1
  have h2:rs[i]=r:=by
   have:=List.getElem?_eq_getElem hilt
   rw[hr]at this;exact(Option.some.inj this).symm
  rw[h2]at h1;exact h1.symm
 have htl:(rs.take i).length=i:=by simp;omega
 have eD: ∀D':Nat→Bool,eAt D' 0 rs e0=eAt D' (i+1) (rs.drop (i+1)) (if D' i then setDst r.dst r.v (eAt D' 0 (rs.take i) e0)else eAt D' 0 (rs.take i) e0):=by
  intro D'
  conv=>lhs;rw[hrs]
  rw[eAt_append,htl]
  simp only[Nat.zero_add,eAt]
 have lD: ∀D':Nat→Bool,lAt D' 0 rs loc0=lAt D' (i+1) (rs.drop (i+1)) (if D' i then patchAll r.patch (lAt D' 0 (rs.take i) loc0)else lAt D' 0 (rs.take i) loc0):=by
  intro D'
  conv=>lhs;rw[hrs]
  rw[lAt_append,htl]
  simp only[Nat.zero_add,lAt]
 have behind: ∀(k:Nat) rk,(rs.drop (i+1))[k]? =some rk→D (i+1+k)=true→(∀d,rk.dst=some d→r.dst≠some d)∧ ∀l,l∈rk.patch.map (·.1)→l∉r.seen∧l∉r.patch.map (·.1):=by
  intro k rk hk hD
  rw[List.getElem?_drop]at hk
  have hlt:i+1+k<L.length:=by rw[←hlen];exact(List.getElem?_eq_some_iff.1 hk).1
  have hLk:L[i+1+k]? =some L[i+1+k]:=by simp[hlt]
  obtain⟨rk',hrk',shk⟩:=shown _ _ hLk
  rw[hk]at hrk';cases hrk'
  have hnp:L[i+1+k].pre.contains (0+i)=false:=by simpa using hsucc _ _ hLk hD
  have hget:(rs.take (i+1+k))[i]? =some r:=by rw[List.getElem?_take,if_pos (by omega)];exact hr
  obtain⟨q1,q2⟩:=dApart_mem _ 0 shk.apart i r hget hnp
  exact⟨fun d hd=>q1 d (by rw[←shk.dst];exact hd),q2⟩
 have hle:ELe (dHide i (L.drop (i+1)) (dEnv o.pre 0 (rs.take i) e0)) (eAt D 0 rs e0):=by
  rw[eD D,hDi]
  simp only[Bool.false_eq_true,if_false]
  refine dHide_le _ _ _ (dEnv_le _ _ (fun t=> .inr rfl) (fun k _ hc=>hpre _ (by simpa using hc))) (by simp[hlen]) (fun k ok rk h1 h2=> ?_)
  rw[List.getElem?_drop]at h1 h2
  obtain⟨rk',hrk',shk⟩:=shown _ _ h1
  rw[h2]at hrk';cases hrk'
  refine⟨shk.dst,fun hc=> ?_⟩
  cases hD:D (i+1+k)with
  |false=>rfl
  |true=>exact absurd (by simpa using hc) (hsucc _ _ h1 hD)
 have hD': ∀k,k≠i→(D k||k==i)=D k:=fun k hk=>by simp[hk]
 have eD':eAt (fun j=>D j||j==i) 0 rs e0=eAt D (i+1) (rs.drop (i+1)) (setDst r.dst r.v (eAt D 0 (rs.take i) e0)):=by
  rw[eD]
  simp only[BEq.rfl,Bool.or_true,if_true]
  rw[eAt_congr (D':=D) (rs.drop (i+1)) (i+1) _ (fun k _=>hD' _ (by omega)),eAt_congr (D':=D) (rs.take i) 0 _ (fun k hk=>hD' _ (by rw[htl]at hk;omega))]
 have lD':lAt (fun j=>D j||j==i) 0 rs loc0=lAt D (i+1) (rs.drop (i+1)) (patchAll r.patch (lAt D 0 (rs.take i) loc0)):=by
  rw[lD]
  simp only[BEq.rfl,Bool.or_true,if_true]
  rw[lAt_congr (D':=D) (rs.drop (i+1)) (i+1) _ (fun k _=>hD' _ (by omega)),lAt_congr (D':=D) (rs.take i) 0 _ (fun k hk=>hD' _ (by rw[htl]at hk;omega))]
 have eD0:eAt D 0 rs e0=eAt D (i+1) (rs.drop (i+1)) (eAt D 0 (rs.take i) e0):=by rw[eD D,hDi];simp
 have lD0:lAt D 0 rs loc0=lAt D (i+1) (rs.drop (i+1)) (lAt D 0 (rs.take i) loc0):=by rw[lD D,hDi];simp
 have hsz: ∀d,om.dst=some d→d<a.tmps.size:=fun d hd=>by rw[inv.size];exact hN d hd
 have envAfter: ∀ {w':World} {γ':G} {u:Value},VR (rest.length+1) w' γ' r.v u→ER (rest.length+1) w' γ' (eAt D 0 rs e0) a→ER (rest.length+1) w' γ' (eAt (fun j=>D j||j==i) 0 rs e0) (a.put om.dst u):=by
  intro w' γ' u hv hE
  have hput:=ER.put hE hv hsz
  intro t
  have ht:=hput t
  rw[eD']
  have hrd:r.dst=om.dst:=sh.dst.trans hdst
  by_cases hd:om.dst=some t
  ·rw[eAt_skip _ t _ _ _ (fun k rk hk hD hrk=>(behind k rk hk hD).1 t hrk (by rw[hrd];exact hd))]
   rw[hd]at ht⊢
   rw[hrd,hd]
   simpa [setDst,Env.get]using ht
  ·have e1:(setDst om.dst r.v (eAt D 0 rs e0)).get t=(eAt D 0 rs e0).get t:=by
    cases hod:om.dst with
    |none=>rfl
    |some d=>simp only[setDst,Env.get];rw[if_neg (fun e=>hd (by rw[hod,e]))]
   rw[e1,eD0]at ht
   have e2:(setDst r.dst r.v (eAt D 0 (rs.take i) e0)).get t=(eAt D 0 (rs.take i) e0).get t:=by
    rw[hrd]
    cases hod:om.dst with
    |none=>rfl
    |some d=>simp only[setDst,Env.get];rw[if_neg (fun e=>hd (by rw[hod,e]))]
   rw[eAt_cong (rs.drop (i+1)) (i+1) e2]
   exact ht
 have hpd: ∀u,(a.put om.dst u).defers=ds:=fun u=>by rw[put_defers];exact inv.defers
 rcases sh.how with ⟨hmv,hv,hpatch,hsn⟩|shs
 ·obtain⟨dst,op,g,pre,hide⟩:=o
  simp only[AOper.isMove,Bool.and_eq_true]at hmv
  obtain⟨⟨_,hg⟩,hop1⟩:=hmv
  have hgn:g=none:=Option.isNone_iff_eq_none.1 hg
  subst hgn
  cases op<;>simp at hop1
  rename_i x
  have hgm:om.guard=none:=by
   rcases hguard with ⟨h,_⟩|⟨_,_,_,_,_,h⟩
   ·exact h
   ·cases h
  have hE:ER (rest.length+1) w γ (dHide i (L.drop (i+1)) (dEnv pre 0 (rs.take i) e0)) a:=by
   intro t
   rcases hle t with h|h
   ·rw[h];exact .undef _
   ·rw[h];exact inv.env t
  have hw:Region.wanted om (yielded ops a.tmps)=true:=by simp[Region.wanted,hgm]
  unfold wpOpIn
  rw[hom]
  dsimp only
  rw[if_pos hw]
  have h1:op1 T X ⟨dst, .mv x,none,pre,hide⟩ (dHide i (L.drop (i+1)) (dEnv pre 0 (rs.take i) e0)) (lAt D 0 rs loc0::rest)=some (r.v,lAt D 0 rs loc0::rest):=by
   rw[hv];rfl
  refine op1_sound rfl hst hyl hF inv.stk hE (by simp) hop h1 (fun u w1 γ1 k1 k2 k3 _=> ?_)
  refine hK _ _ _ ⟨envAfter k1 (inv.env.ext k3),k2.congr (fun l=> ?_),by rw[put_size];exact inv.size,inv.ext.trans k3,hpd u⟩
  rw[lD',lD0,hpatch]
  rfl
 have hseen:r.seen=dSee o (rs.take i) loc0:=shs.seen
 have notyet: ∀l,(l∈r.seen∨l∈r.patch.map (·.1))→(lAt D 0 rs loc0).get l=(dLoc o.pre 0 (rs.take i) loc0).get l:=by
  intro l hl
  rw[lD D,hDi]
  simp only[Bool.false_eq_true,if_false]
  rw[lAt_skip _ _ _ (fun k rk hk hD hin=>by
   have:=(behind k rk hk hD).2 l hin
   rcases hl with hl|hl
   ·exact this.1 hl
   ·exact this.2 hl)]
  refine(dLoc_eq (rs.take i) 0 rfl (fun k rk hk=>⟨fun hc=>hpre _ (by simpa using hc),fun hc=> ?_⟩)).symm
  rcases hl with hl|hl
  ·rw[hseen]at hl
   unfold dSee dVis at hl
   obtain⟨x,hx,rfl⟩:=List.mem_map.1 hl
   have hx2:=(List.mem_filter.1 hx).2
   have:x.1∉dHid o.pre 0 (rs.take i):=by
    intro hin
    simp[hin]at hx2
   exact dHid_mem _ 0 this k rk hk hc
  ·exact((dApart_mem _ 0 sh.apart k rk hk hc).2 l hl).2
 have visget: ∀l,l∈r.seen→(dVis o (rs.take i) loc0).get l=(dLoc o.pre 0 (rs.take i) loc0).get l:=by
  intro l hl
  rw[hseen]at hl
  unfold dSee dVis at hl
  unfold dVis
  rw[vis_get]
  obtain⟨x,hx,rfl⟩:=List.mem_map.1 hl
  have hx2:=(List.mem_filter.1 hx).2
  rw[if_neg (by intro hin;simp at hx2;rcases List.mem_append.1 hin with h|h;exact hx2.1 h;exact hx2.2 h)]
 have visnone: ∀l,l∉r.seen→(dVis o (rs.take i) loc0).get l=none:=fun l hl=>lget_none (by rw[hseen]at hl;exact hl)
 have hfix:=shs.fix
 rw[←hseen]at hfix
 have hSv:SR (KP P) (dVis o (rs.take i) loc0::rest) w (γ.hide rest.length r.seen):=inv.stk.hide (fun l hl=>by rw[visget l hl,notyet l (.inl hl)]) visnone hfix
 have hEv:ER (rest.length+1) w (γ.hide rest.length r.seen) (dSeen o (L.drop (i+1)) i rest.length (rs.take i) loc0 e0) a:=by
  intro t
  unfold dSeen
  rw[env_ren,←hseen]
  rcases hle t with h|h
  ·rw[h];exact .undef _
  ·rw[h];exact VR.map' RenOk.hide _ _ (inv.env t)
 have hrun:=shs.run
 unfold wpOpIn
 rw[hom]
 dsimp only
 have ran:dop T X o (dSeen o (L.drop (i+1)) i rest.length (rs.take i) loc0 e0) (dVis o (rs.take i) loc0) rest=some (r.v,r.patch)→om.wpIn F n P a w K Q:=by
  intro hd
  obtain⟨vis',h1,h2⟩:=dop_op1 hd
  refine op1_sound rfl hst hyl hF hSv hEv (by simp) hop h1 (fun u w1 γ1 k1 k2 k3 _=> ?_)
  have hk': ∀l,l∈r.seen→l∈r.seen ++r.patch.map (·.1):=fun l hl=>by simp[hl]
  obtain⟨b1,b2,b3⟩:=back_ok (keep:=r.seen) (keep':=r.seen ++r.patch.map (·.1)) inv.stk k2 k3 hk' (fun l hl=>by
   simp only[List.mem_append,not_or]at hl
   rw[h2,patch_other _ _ hl.2,visnone l hl.1]) (fun l hl hl'=>by
   have hlp:l∈r.patch.map (·.1):=by rcases List.mem_append.1 hl with h|h;exact absurd h hl';exact h
   rw[notyet l (.inr hlp)]
   rcases sh.fresh l hlp with h|h
   ·exact absurd h hl'
   ·exact h)
   (loc':=lAt (fun j=>D j||j==i) 0 rs loc0) (fun l hl=>by
    rw[lD',h2]
    have hl2:l∈r.seen∨l∈r.patch.map (·.1):=List.mem_append.1 hl
    rw[lAt_skip _ _ _ (fun k rk hk hD hin=>by
     have:=(behind k rk hk hD).2 l hin
     rcases hl2 with hl|hl
     ·exact this.1 hl
     ·exact this.2 hl)]
    by_cases hp:l∈r.patch.map (·.1)
    ·exact patch_in _ _ _ hp
    ·rw[patch_other _ _ hp,patch_other _ _ hp]
     have hs:l∈r.seen:=hl2.resolve_right hp
     rw[visget l hs,←notyet l (.inl hs),lD0]
     exact(lAt_skip _ _ _ (fun k rk hk hD hin=>((behind k rk hk hD).2 l hin).1 hs)).symm) (fun l hl=>by
    simp only[List.mem_append,not_or]at hl
    rw[lD',lD0]
    exact lAt_cong _ _ (patch_other _ _ hl.2))
  exact hK _ _ _ ⟨envAfter (b3 k1) (inv.env.ext b2),b1,by rw[put_size];exact inv.size,inv.ext.trans b2,hpd u⟩
 unfold gop at hrun
 rcases hguard with ⟨hg1,hg2⟩|⟨g,want,slot,hg1,hg2,hg3⟩
 ·rw[hg2]at hrun
  have hw:Region.wanted om (yielded ops a.tmps)=true:=by simp[Region.wanted,hg1]
  rw[if_pos hw]
  exact ran hrun
 ·rw[hg3]at hrun
  dsimp only at hrun
  split at hrun
  ·rename_i b hb
   have hy:=yielded_of hg2 hEv hb
   split at hrun
   ·rename_i hbw
    have hw:Region.wanted om (yielded ops a.tmps)=true:=by simp[Region.wanted,hg1,hy,hbw]
    rw[if_pos hw]
    exact ran hrun
   ·rename_i hbw
    have hw:Region.wanted om (yielded ops a.tmps)=false:=by simp[Region.wanted,hg1,hy,hbw]
    rw[if_neg (by simp[hw])]
    simp only[Option.some.injEq,Prod.mk.injEq]at hrun
    obtain⟨hrv,hrp⟩:=hrun
    refine⟨fun f _=>hF.fn f,hK _ _ _ ⟨envAfter (by rw[←hrv];exact .skip) inv.env,inv.stk.congr (fun l=> ?_),by rw[put_size];exact inv.size,inv.ext,hpd _⟩⟩
    rw[lD',lD0,←hrp]
    rfl
  ·rename_i hb
   have hy:=yielded_skip hg2 hEv hb
   have hw:Region.wanted om (yielded ops a.tmps)=false:=by simp[Region.wanted,hg1,hy]
   rw[if_neg (by simp[hw])]
   simp only[Option.some.injEq,Prod.mk.injEq]at hrun
   obtain⟨hrv,hrp⟩:=hrun
   refine⟨fun f _=>hF.fn f,hK _ _ _ ⟨envAfter (by rw[←hrv];exact .skip) inv.env,inv.stk.congr (fun l=> ?_),by rw[put_size];exact inv.size,inv.ext,hpd _⟩⟩
   rw[lD',lD0,←hrp]
   rfl
  ·cases hrun
end
end Go.Ab

/-
  Regions that draw their order: 'draw_ok'; THE SOUNDNESS OF THE EVALUATOR.
-/
namespace Go.Ab
theorem filter_lt {α:Type} {p q:α→Bool}: ∀(l:List α),(∀x,x∈l→q x=true→p x=true)→ ∀ {i},i∈l→p i=true→q i=false→(l.filter q).length<(l.filter p).length
 |[],_,i,hi,_,_=>by simp at hi
 |x::l,h,i,hi,hp,hq=>by
   have mono:(l.filter q).length≤(l.filter p).length:=by
    clear hi
    have h': ∀x,x∈l→q x=true→p x=true:=fun x hx=>h x (by simp[hx])
    clear h
    induction l with
    |nil=>simp
    |cons y l ih=>
      have:=ih (fun x hx=>h' x (by simp[hx]))
      simp only[List.filter_cons]
      have hy:=h' y (by simp)
      split
      ·rename_i hqy
       rw[if_pos (hy hqy)]
       simp only[List.length_cons];omega
      ·split
       ·simp only[List.length_cons];omega
       ·exact this
   simp only[List.mem_cons]at hi
   simp only[List.filter_cons]
   rcases hi with rfl|hi
   ·rw[hp,hq]
    simp only[if_true,Bool.false_eq_true,if_false,List.length_cons];omega
   ·have:=filter_lt l (fun x hx=>h x (by simp[hx])) hi hp hq
    have hx:=h x (by simp)
    split
    ·rename_i hqx
     rw[if_pos (hx hqx)]
     simp only[List.length_cons];omega
    ·split
     ·simp only[List.length_cons];omega
     ·exact this
section
variable {P : Program} {T : Tab} {X : Exec} {N : Nat} {ops : Array Oper} {L : List AOper} {rs : List Did} {loc0 : Loc} {rest : Stk} {e0 : Env}
structure Fellow(P:Program)(N:Nat)(ops:Array Oper)(L:List AOper)(j:Nat)(om:Oper)(o:AOper):Prop where
 op: ∃m,compOpM P m om=some o.op
 dst:o.dst=om.dst
 lt: ∀d,om.dst=some d→d<N
 guard:(om.guard=none∧o.guard=none)∨ ∃g want slot,om.guard=some (g,want)∧(ops[g]?).bind (·.dst)=some slot∧o.guard=some (slot,want)
 pre1: ∀i,i∈directs om→i<j∧i∈o.pre
 pre2: ∀i,i∈o.pre→i<j∧(i∈directs om∨ ∃q oq,q∈directs om∧L[q]? =some oq∧i∈oq.pre)
theorem cut_append: ∀(l:List AOper) (i:Nat),(cut i l).1 ++(cut i l).2=l
 |[],_=>rfl
 |o::r,i=>by
   simp only[cut]
   split
   ·rfl
   ·simp only[List.cons_append,cut_append r (i+1)]
theorem cut_ordered: ∀(l:List AOper) (i:Nat),ordered (i+(cut i l).1.length) (cut i l).2=true
 |[],_=>rfl
 |o::r,i=>by
   simp only[cut]
   split
   ·rename_i h;simpa using h
   ·have:=cut_ordered r (i+1)
    simp only[List.length_cons]
    rw[show i+((cut (i+1) r).1.length+1)=i+1+(cut (i+1) r).1.length by omega]
    exact this
theorem ordered_get: ∀(l:List AOper) (i:Nat),ordered i l=true→ ∀(k:Nat) o,l[k]? =some o→ ∀m,m<i+k→m∈o.pre
 |[],_,_,_,_,h,_,_=>by simp at h
 |o::r,i,h,k,o',hk,m,hm=>by
   simp only[ordered,Bool.and_eq_true,List.all_eq_true,List.mem_range,List.contains_eq_mem,decide_eq_true_eq]at h
   cases k with
   |zero=>simp at hk;subst hk;exact h.1 m (by omega)
   |succ k=>exact ordered_get r (i+1) h.2 k o' (by simpa using hk) m (by omega)
theorem getD_iff(listed:Array Bool)(j:Nat)(h:j<listed.size):listed.getD j true=listed.getD j false:=by simp[Array.getD_eq_getD_getElem?,h]
theorem ready_pre(hops:ops.size=L.length)(fellow: ∀(j:Nat) o,L[j]? =some o→ ∃om,ops[j]? =some om∧Fellow P N ops L j om o) {listed:Array Bool}(hcl: ∀(j:Nat) o,L[j]? =some o→listed.getD j false=true→ ∀i,i∈o.pre→listed.getD i false=true)
 {i:Nat} (hi:i∈Region.ready .any ops listed): ∃o om,L[i]? =some o∧ops[i]? =some om∧Fellow P N ops L i om o∧listed.getD i true=false∧ ∀j,j∈o.pre→listed.getD j false=true:=by
 obtain⟨h1,om,hom,hall⟩:=mem_ready.1 hi
 have hlt:i<ops.size:=(Array.getElem?_eq_some_iff.1 hom).1
 have hLi:L[i]? =some L[i]:=by simp[show i<L.length by omega]
 obtain⟨om',hom',fe⟩:=fellow i _ hLi
 rw[hom]at hom';cases hom'
 have hdirect: ∀q,q∈directs om→listed.getD q false=true:=by
  intro q hq
  unfold directs at hq
  obtain⟨ed,hed,rfl⟩:=List.mem_map.1 hq
  obtain⟨hed1,hed2⟩:=List.mem_filter.1 hed
  exact hall ed (by simpa using hed1) hed2
 refine⟨L[i],om,hLi,hom,fe,h1,fun j hj=> ?_⟩
 rcases (fe.pre2 j hj).2 with h|⟨q,oq,hq,hoq,hjq⟩
 ·exact hdirect j h
 ·exact hcl q oq hoq (hdirect q hq) j hjq
theorem ready_of {om:Oper} {o:AOper} {i:Nat}(hom:ops[i]? =some om)(fe:Fellow P N ops L i om o) {listed:Array Bool}(h:listed.getD i true=false)(hall: ∀j,j<i→listed.getD j false=true):i∈Region.ready .any ops listed:=by
 rw[mem_ready]
 refine⟨h,om,hom,fun ed hed hb=> ?_⟩
 have hin:ed.on∈directs om:=by
  unfold directs
  exact List.mem_map.2 ⟨ed,List.mem_filter.2 ⟨by simpa using hed,hb⟩,rfl⟩
 exact hall _ (fe.pre1 _ hin).1
theorem draw_tail(hst:StatOk (KP P) P T X)(hyl:YldOk (KP P) P T X) {F:Fence}(hF:Wide F) {n:Nat}(hops:ops.size=L.length)
 (fellow: ∀(j:Nat) o,L[j]? =some o→ ∃om,ops[j]? =some om∧Fellow P N ops L j om o) {i0:Nat} (htail: ∀(j:Nat) o,L[j]? =some o→i0≤j→ ∀k,k<j→k∈o.pre)
 {Q:Exit→Act→World→Prop} {e':Env} {s':Stk}: ∀(r t fuel:Nat) (listed:Array Bool) {e:Env} {s:Stk} {a:Act} {w:World} {γ:G},t+r=ops.size→i0≤t→listed.size=ops.size→
  (∀j,j<ops.size→(listed.getD j false=true↔j<t))→r≤fuel→runOps T X (L.drop t) e s=some (e',s')→s≠[]→a.tmps.size=N→ER s.length w γ e a→SR (KP P) s w γ→
  (∀a' w' γ',a'.tmps.size=N→ER s'.length w' γ' e' a'→SR (KP P) s' w' γ'→Ext s.length w γ w' γ'→s'.length=s.length→a'.defers=a.defers→Q .normal a' w')→wpAnyIn F n P .any ops Q fuel listed a w:=by
 intro r
 induction r with
 |zero=>
   intro t fuel listed e s a w γ ht hi hsz hl hf hr hs hN hE hS hQ
   rw[List.drop_eq_nil_of_le (by omega)]at hr
   simp only[runOps,Option.some.injEq,Prod.mk.injEq]at hr
   obtain⟨rfl,rfl⟩:=hr
   have hq:=hQ a w γ hN hE hS (Ext.refl _ _ _) rfl rfl
   have hnil:Region.ready .any ops listed=[]:=by
    cases hrd:Region.ready .any ops listed with
    |nil=>rfl
    |cons i l=>
      exfalso
      have hi:i∈Region.ready .any ops listed:=by rw[hrd];simp
      obtain⟨h1,o,ho,_⟩:=mem_ready.1 hi
      have hlt:i<ops.size:=(Array.getElem?_eq_some_iff.1 ho).1
      rw[getD_iff _ _ (by omega)]at h1
      have:=(hl i hlt).2 (by omega)
      rw[h1]at this;cases this
   cases fuel with
   |zero=>exact⟨hnil,hq⟩
   |succ fuel=>exact⟨fun _=>hq,fun i hi=>by rw[hnil]at hi;cases hi⟩
 |succ r ih=>
   intro t fuel listed e s a w γ ht hi hsz hl hf hr hs hN hE hS hQ
   have htl:t<L.length:=by omega
   have hLt:L[t]? =some L[t]:=by simp[htl]
   obtain⟨om,hom,fe⟩:=fellow t _ hLt
   have hcl: ∀(j:Nat) o,L[j]? =some o→listed.getD j false=true→ ∀i,i∈o.pre→listed.getD i false=true:=by
    intro j o hj hd i hip
    obtain⟨omj,homj,fej⟩:=fellow j o hj
    have h1:=(fej.pre2 i hip).1
    have hjl:j<ops.size:=(Array.getElem?_eq_some_iff.1 homj).1
    exact(hl i (by omega)).2 (by have:=(hl j hjl).1 hd;omega)
   have hunt:listed.getD t true=false:=by
    rw[getD_iff _ _ (by omega)]
    cases h:listed.getD t false with
    |false=>rfl
    |true=>have:=(hl t (by omega)).1 h;omega
   have hready:t∈Region.ready .any ops listed:=ready_of hom fe hunt fun j hj=>(hl j (by omega)).2 hj
   cases fuel with
   |zero=>omega
   |succ fuel=>
     refine⟨fun h=>(by rw[h]at hready;cases hready),fun i hi'=> ?_⟩
     obtain⟨o,om',hLi,hom',fe',h1,hpre⟩:=ready_pre hops fellow hcl hi'
     have hil:i<ops.size:=(Array.getElem?_eq_some_iff.1 hom').1
     have hit:i=t:=by
      rw[getD_iff _ _ (by omega)]at h1
      have h2: ¬i<t:=fun h=>by have:=(hl i hil).2 h;rw[h1]at this;cases this
      have h3: ¬t<i:=fun h=>by
       have:=(hl t (by omega)).1 (hpre t (htail i o hLi (by omega) t h))
       omega
      omega
     subst hit
     rw[hom]at hom';cases hom'
     rw[hLt]at hLi;cases hLi
     obtain⟨m,hop⟩:=fe.op
     have hset: ∀j,(listed.setIfInBounds i true).getD j false=(listed.getD j false||j==i):=by
      intro j
      by_cases e:i=j
      ·subst e
       simp[Array.getD_eq_getD_getElem?,hsz,hil]
      ·rw[getD_set_ne false e]
       simp[show(j==i)=false by simp;exact fun h=>e h.symm]
     have hl': ∀j,j<ops.size→((listed.setIfInBounds i true).getD j false=true↔j<i+1):=by
      intro j hj
      rw[hset,Bool.or_eq_true,hl j hj,beq_iff_eq]
      omega
     have hdst: ∀d,om.dst=some d→d<a.tmps.size:=fun d hd=>by rw[hN];exact fe.lt d hd
     rw[List.drop_eq_getElem_cons htl]at hr
     unfold wpOpIn
     rw[hom]
     dsimp only
     have runs: ∀ {v:V} {s1:Stk},op1 T X L[i] e s=some (v,s1)→runOps T X (L.drop (i+1)) (setDst L[i].dst v e) s1=some (e',s')→om.wpIn F n P a w (wpAnyIn F n P .any ops Q fuel (listed.setIfInBounds i true)) Q:=by
      intro v s1 hv hrest
      refine op1_sound rfl hst hyl hF hS hE hs (ao:=L[i]) hop hv (fun u w1 γ1 k1 k2 k3 k4=> ?_)
      have hs1:s1≠[]:=fun e0=>by rw[e0]at k4;exact hs (List.eq_nil_of_length_eq_zero k4.symm)
      refine ih (i+1) fuel _ (by omega) (by omega) (by simpa using hsz) hl' (by omega) hrest hs1 (by rw[put_size];exact hN) ?_ k2 (fun a' w' γ' q1 q2 q3 q4 q5 q6=> ?_)
      ·rw[k4]at k1⊢
       rw[fe.dst]
       exact(hE.ext k3).put k1 hdst
      ·rw[k4]at q4 q5
       exact hQ a' w' γ' q1 q2 q3 (k3.trans q4) q5 (by rw[q6,put_defers])
     have skips:runOps T X (L.drop (i+1)) (setDst L[i].dst .skip e) s=some (e',s')→wpAnyIn F n P .any ops Q fuel (listed.setIfInBounds i true) (a.put om.dst undef) w:=by
      intro hrest
      refine ih (i+1) fuel _ (by omega) (by omega) (by simpa using hsz) hl' (by omega) hrest hs (by rw[put_size];exact hN) ?_ hS (fun a' w' γ' q1 q2 q3 q4 q5 q6=>hQ a' w' γ' q1 q2 q3 q4 q5 (by rw[q6,put_defers]))
      rw[fe.dst]
      exact hE.put .skip hdst
     simp only[runOps]at hr
     rcases fe.guard with ⟨hg1,hg2⟩|⟨g,want,slot,hg1,hg2,hg3⟩
     ·rw[hg2]at hr
      dsimp only at hr
      have hw:Region.wanted om (yielded ops a.tmps)=true:=by simp[Region.wanted,hg1]
      rw[if_pos hw]
      split at hr
      ·rename_i v s1 hv
       exact runs hv hr
      ·cases hr
     ·rw[hg3]at hr
      dsimp only at hr
      split at hr
      ·rename_i b hb
       have hy:=yielded_of hg2 hE hb
       split at hr
       ·rename_i hbw
        have hw:Region.wanted om (yielded ops a.tmps)=true:=by simp[Region.wanted,hg1,hy,hbw]
        rw[if_pos hw]
        split at hr
        ·rename_i v s1 hv
         exact runs hv hr
        ·cases hr
       ·rename_i hbw
        have hw:Region.wanted om (yielded ops a.tmps)=false:=by simp[Region.wanted,hg1,hy,hbw]
        rw[if_neg (by simp[hw])]
        exact⟨fun f _=>hF.fn f,skips hr⟩
      ·rename_i hb
       have hy:=yielded_skip hg2 hE hb
       have hw:Region.wanted om (yielded ops a.tmps)=false:=by simp[Region.wanted,hg1,hy]
       rw[if_neg (by simp[hw])]
       exact⟨fun f _=>hF.fn f,skips hr⟩
      ·cases hr
theorem readyFrom_mem {done:List Nat}: ∀(l:List AOper) (k i:Nat),i∈readyFrom k l done↔ ∃o,l[i-k]? =some o∧k≤i∧i∉done∧ ∀p∈o.pre,p∈done
 |[],k,i=>by simp[readyFrom]
 |o::r,k,i=>by
   have ih:=readyFrom_mem (done:=done) r (k+1) i
   have hcons: ∀o',(o::r)[i-k]? =some o'∧k≤i↔(i=k∧o'=o)∨(r[i-(k+1)]? =some o'∧k+1≤i):=by
    intro o'
    constructor
    ·rintro⟨h1,h2⟩
     by_cases e:i=k
     ·subst e;simp at h1;exact .inl ⟨rfl,h1.symm⟩
     ·have:i-k=(i-(k+1))+1:=by omega
      rw[this,List.getElem?_cons_succ]at h1
      exact .inr ⟨h1,by omega⟩
    ·rintro(⟨rfl,rfl⟩|⟨h1,h2⟩)
     ·simp
     ·have:i-k=(i-(k+1))+1:=by omega
      rw[this,List.getElem?_cons_succ]
      exact⟨h1,by omega⟩
   have hex:(∃o',(o::r)[i-k]? =some o'∧k≤i∧i∉done∧ ∀p∈o'.pre,p∈done)↔(i=k∧i∉done∧ ∀p∈o.pre,p∈done)∨ ∃o',r[i-(k+1)]? =some o'∧k+1≤i∧i∉done∧ ∀p∈o'.pre,p∈done:=by
    constructor
    ·rintro⟨o',h1,h2,h3⟩
     rcases (hcons o').1 ⟨h1,h2⟩with ⟨h4,rfl⟩|⟨h4,h5⟩
     ·exact .inl ⟨h4,h3⟩
     ·exact .inr ⟨o',h4,h5,h3⟩
    ·rintro(⟨h1,h2⟩|⟨o',h1,h2,h3⟩)
     ·obtain⟨h4,h5⟩:=(hcons o).2 (.inl ⟨h1,rfl⟩)
      exact⟨o,h4,h5,h2⟩
     ·obtain⟨h4,h5⟩:=(hcons o').2 (.inr ⟨h1,h2⟩)
      exact⟨o',h4,h5,h3⟩
   rw[hex,←ih,show readyFrom k (o::r) done=if done.contains k|| !(o.pre.all fun p=>done.contains p)then readyFrom (k+1) r done else k::readyFrom (k+1) r done from rfl]
   by_cases h:done.contains k|| !(o.pre.all fun p=>done.contains p)
   ·rw[if_pos h]
    constructor
    ·exact .inr
    ·rintro(⟨rfl,h2,h3⟩|h2)
     ·exfalso
      simp only[Bool.or_eq_true,List.contains_iff_mem,Bool.not_eq_true',List.all_eq_false]at h
      rcases h with h|⟨x,hx,hx2⟩
      ·exact h2 h
      ·exact hx2 (by simpa using h3 x hx)
     ·exact h2
   ·rw[if_neg h,List.mem_cons]
    simp only[Bool.or_eq_true,List.contains_iff_mem,Bool.not_eq_true',List.all_eq_false,not_or,not_exists,not_and,Classical.not_not]at h
    constructor
    ·rintro(rfl|h2)
     ·exact .inl ⟨rfl,h.1,fun p hp=>by simpa using h.2 p hp⟩
     ·exact .inr h2
    ·rintro(⟨rfl,_⟩|h2)
     ·exact .inl rfl
     ·exact .inr h2
theorem draw_each(hst:StatOk (KP P) P T X)(hyl:YldOk (KP P) P T X) {F:Fence}(hF:Wide F) {n:Nat}(hops:ops.size=L.length)
 (fellow: ∀(j:Nat) o,L[j]? =some o→ ∃om,ops[j]? =some om∧Fellow P N ops L j om o) {live:List Nat}
 {Q:Exit→Act→World→Prop} {e':Env} {s':Stk}: ∀(f:List AOper) (done:List Nat) (fuel:Nat) (listed:Array Bool) {e:Env} {s:Stk} {a:Act} {w:World} {γ:G},listed.size=ops.size→
  (∀j,j<ops.size→(listed.getD j false=true↔j∈done))→((List.range ops.size).filter fun j=> !listed.getD j true).length≤fuel→
  (∀(j:Nat) o,L[j]? =some o→listed.getD j false=true→ ∀i,i∈o.pre→listed.getD i false=true)→
  runAny T X L live f done e s=some (e',s')→s≠[]→a.tmps.size=N→ER s.length w γ e a→SR (KP P) s w γ→
  (∀a' w' γ',a'.tmps.size=N→ER s'.length w' γ' e' a'→SR (KP P) s' w' γ'→Ext s.length w γ w' γ'→s'.length=s.length→a'.defers=a.defers→Q .normal a' w')→wpAnyIn F n P .any ops Q fuel listed a w:=by
 intro f
 have fin: ∀(done:List Nat) (fuel:Nat) (listed:Array Bool) {e:Env} {s:Stk} {a:Act} {w:World} {γ:G},listed.size=ops.size→(∀j,j<ops.size→(listed.getD j false=true↔j∈done))→
  (∀(j:Nat) o,L[j]? =some o→listed.getD j false=true→ ∀i,i∈o.pre→listed.getD i false=true)→readyFrom 0 L done=[]→some (e.only live,s)=some (e',s')→a.tmps.size=N→ER s.length w γ e a→SR (KP P) s w γ→
  (∀a' w' γ',a'.tmps.size=N→ER s'.length w' γ' e' a'→SR (KP P) s' w' γ'→Ext s.length w γ w' γ'→s'.length=s.length→a'.defers=a.defers→Q .normal a' w')→wpAnyIn F n P .any ops Q fuel listed a w:=by
  intro done fuel listed e s a w γ hsz hl hcl h0 hr hN hE hS hQ
  simp only[Option.some.injEq,Prod.mk.injEq]at hr
  obtain⟨rfl,rfl⟩:=hr
  have hq:=hQ a w γ hN (hE.only live) hS (Ext.refl _ _ _) rfl rfl
  have hnil:Region.ready .any ops listed=[]:=by
   cases hrd:Region.ready .any ops listed with
   |nil=>rfl
   |cons i l=>
     exfalso
     have hi:i∈Region.ready .any ops listed:=by rw[hrd];simp
     obtain⟨o,om,hLi,hom,fe,h1,hpre⟩:=ready_pre hops fellow hcl hi
     have hlt:i<ops.size:=(Array.getElem?_eq_some_iff.1 hom).1
     have:i∈readyFrom 0 L done:=(readyFrom_mem L 0 i).2 ⟨o,by simpa using hLi,Nat.zero_le _,(fun hd=>by
      rw[getD_iff _ _ (by omega)]at h1
      rw[(hl i hlt).2 hd]at h1;cases h1),fun p hp=>(hl p (by have:=(fe.pre2 p hp).1;omega)).1 (hpre p hp)⟩
     rw[h0]at this;cases this
  cases fuel with
  |zero=>exact⟨hnil,hq⟩
  |succ fuel=>exact⟨fun _=>hq,fun i hi=>by rw[hnil]at hi;cases hi⟩
 induction f with
 |nil=>
   intro done fuel listed e s a w γ hsz hl hcount hcl hr hs hN hE hS hQ
   simp only[runAny]at hr
   split at hr
   ·rename_i h0;exact fin done fuel listed hsz hl hcl h0 hr hN hE hS hQ
   ·cases hr
 |cons x f ih=>
   intro done fuel listed e s a w γ hsz hl hcount hcl hr hs hN hE hS hQ
   simp only[runAny]at hr
   split at hr
   ·rename_i h0;exact fin done fuel listed hsz hl hcl h0 hr hN hE hS hQ
   rename_i h0
   have hall:=agree_all hr
   obtain⟨i0,hi0⟩:=List.exists_mem_of_ne_nil _ h0
   obtain⟨o0,ho0,_,hnd0,_⟩:=(readyFrom_mem L 0 i0).1 hi0
   have hlt0:i0<ops.size:=by rw[hops];exact(List.getElem?_eq_some_iff.1 (by simpa using ho0)).1
   have hf0:listed.getD i0 false=false:=by
    cases h:listed.getD i0 false with
    |false=>rfl
    |true=>exact absurd ((hl i0 hlt0).1 h) hnd0
   have hfirst: ∃j1,j1<ops.size∧listed.getD j1 false=false∧ ∀k,k<j1→listed.getD k false=true:=by
    have: ∀m j,j≤m→j<ops.size→listed.getD j false=false→ ∃j1,j1<ops.size∧listed.getD j1 false=false∧ ∀k,k<j1→listed.getD k false=true:=by
     intro m
     induction m with
     |zero=>intro j hj h1 h2;exact⟨j,h1,h2,fun k hk=>by omega⟩
     |succ m ihm=>
       intro j hj h1 h2
       by_cases hx: ∀k,k<j→listed.getD k false=true
       ·exact⟨j,h1,h2,hx⟩
       ·simp only[Classical.not_forall]at hx
        obtain⟨k,hk,hk2⟩:=hx
        exact ihm k (by omega) (by omega) (by simpa using hk2)
    exact this i0 i0 (Nat.le_refl _) hlt0 hf0
   obtain⟨j1,hj1,hf1,hb1⟩:=hfirst
   have hready:j1∈Region.ready .any ops listed:=by
    have hLj:L[j1]? =some L[j1]:=by simp[show j1<L.length by omega]
    obtain⟨om,hom,fe⟩:=fellow j1 _ hLj
    exact ready_of hom fe (by rw[getD_iff _ _ (by omega)];exact hf1) hb1
   cases fuel with
   |zero=>
     exfalso
     have:i0∈(List.range ops.size).filter fun j=> !listed.getD j true:=List.mem_filter.2 ⟨List.mem_range.2 hlt0,by rw[getD_iff _ _ (by omega),hf0];rfl⟩
     have:=List.length_pos_of_mem this
     omega
   |succ fuel=>
     refine⟨fun h=>(by rw[h]at hready;cases hready),fun i hi'=> ?_⟩
     obtain⟨o,om,hLi,hom,fe,h1,hpre⟩:=ready_pre hops fellow hcl hi'
     have hil:i<ops.size:=(Array.getElem?_eq_some_iff.1 hom).1
     have hin:i∈readyFrom 0 L done:=(readyFrom_mem L 0 i).2 ⟨o,by simpa using hLi,Nat.zero_le _,(fun hd=>by
      rw[getD_iff _ _ (by omega)]at h1
      rw[(hl i hil).2 hd]at h1;cases h1),fun p hp=>(hl p (by have:=(fe.pre2 p hp).1;omega)).1 (hpre p hp)⟩
     have hgo:=hall _ (List.mem_map.2 ⟨i,hin,rfl⟩)
     rw[hLi]at hgo
     dsimp only at hgo
     split at hgo
     rotate_left
     ·cases hgo
     rename_i e1 s1 hone
     obtain⟨m,hop⟩:=fe.op
     have hset: ∀j,(listed.setIfInBounds i true).getD j false=(listed.getD j false||j==i):=by
      intro j
      by_cases e:i=j
      ·subst e
       simp[Array.getD_eq_getD_getElem?,hsz,hil]
      ·rw[getD_set_ne false e]
       simp[show(j==i)=false by simp;exact fun h=>e h.symm]
     have hl': ∀j,j<ops.size→((listed.setIfInBounds i true).getD j false=true↔j∈i::done):=by
      intro j hj
      rw[hset,Bool.or_eq_true,hl j hj,beq_iff_eq,List.mem_cons]
      exact or_comm
     have hcount':((List.range ops.size).filter fun j=> !(listed.setIfInBounds i true).getD j true).length≤fuel:=by
      have:((List.range ops.size).filter fun j=> !(listed.setIfInBounds i true).getD j true).length<((List.range ops.size).filter fun j=> !listed.getD j true).length:=by
       refine filter_lt _ (fun x _ hx=> ?_) (List.mem_range.2 hil) (by rw[h1];rfl) ?_
       ·by_cases e:i=x
        ·subst e
         have:(listed.setIfInBounds i true).getD i true=true:=by rw[getD_iff _ _ (by simpa [hsz]using hil),hset];simp
         rw[this]at hx;cases hx
        ·rwa [getD_set_ne true e]at hx
       ·have:(listed.setIfInBounds i true).getD i true=true:=by rw[getD_iff _ _ (by simpa [hsz]using hil),hset];simp
        rw[this];rfl
      omega
     have hcl': ∀(j:Nat) o,L[j]? =some o→(listed.setIfInBounds i true).getD j false=true→ ∀p,p∈o.pre→(listed.setIfInBounds i true).getD p false=true:=by
      intro j o' ho hD p hp
      rw[hset]at hD⊢
      simp only[Bool.or_eq_true,beq_iff_eq]at hD⊢
      rcases hD with hD|rfl
      ·exact .inl (hcl j o' ho hD p hp)
      ·rw[hLi]at ho;cases ho
       exact .inl (hpre p hp)
     have hdst: ∀d,om.dst=some d→d<a.tmps.size:=fun d hd=>by rw[hN];exact fe.lt d hd
     unfold wpOpIn
     rw[hom]
     dsimp only
     have runs: ∀ {v:V} {s2:Stk},op1 T X o e s=some (v,s2)→setDst o.dst v e=e1→s2=s1→om.wpIn F n P a w (wpAnyIn F n P .any ops Q fuel (listed.setIfInBounds i true)) Q:=by
      rintro v s2 hv rfl rfl
      refine op1_sound rfl hst hyl hF hS hE hs (ao:=o) hop hv (fun u w1 γ1 k1 k2 k3 k4=> ?_)
      have hs1:s2≠[]:=fun e0=>by rw[e0]at k4;exact hs (List.eq_nil_of_length_eq_zero k4.symm)
      refine ih (i::done) fuel _ (by simpa using hsz) hl' hcount' hcl' hgo hs1 (by rw[put_size];exact hN) ?_ k2 (fun a' w' γ' q1 q2 q3 q4 q5 q6=> ?_)
      ·rw[k4]at k1⊢
       rw[fe.dst]
       exact(hE.ext k3).put k1 hdst
      ·rw[k4]at q4 q5
       exact hQ a' w' γ' q1 q2 q3 (k3.trans q4) q5 (by rw[q6,put_defers])
     have skips:setDst o.dst .skip e=e1→s=s1→wpAnyIn F n P .any ops Q fuel (listed.setIfInBounds i true) (a.put om.dst undef) w:=by
      rintro rfl rfl
      refine ih (i::done) fuel _ (by simpa using hsz) hl' hcount' hcl' hgo hs (by rw[put_size];exact hN) ?_ hS (fun a' w' γ' q1 q2 q3 q4 q5 q6=>hQ a' w' γ' q1 q2 q3 q4 q5 (by rw[q6,put_defers]))
      rw[fe.dst]
      exact hE.put .skip hdst
     simp only[runOps]at hone
     rcases fe.guard with ⟨hg1,hg2⟩|⟨g,want,slot,hg1,hg2,hg3⟩
     ·rw[hg2]at hone
      dsimp only at hone
      have hw:Region.wanted om (yielded ops a.tmps)=true:=by simp[Region.wanted,hg1]
      rw[if_pos hw]
      split at hone
      ·rename_i v s2 hv
       simp only[Option.some.injEq,Prod.mk.injEq]at hone
       exact runs hv hone.1 hone.2
      ·cases hone
     ·rw[hg3]at hone
      dsimp only at hone
      split at hone
      ·rename_i b hb
       have hy:=yielded_of hg2 hE hb
       split at hone
       ·rename_i hbw
        have hw:Region.wanted om (yielded ops a.tmps)=true:=by simp[Region.wanted,hg1,hy,hbw]
        rw[if_pos hw]
        split at hone
        ·rename_i v s2 hv
         simp only[Option.some.injEq,Prod.mk.injEq]at hone
         exact runs hv hone.1 hone.2
        ·cases hone
       ·rename_i hbw
        have hw:Region.wanted om (yielded ops a.tmps)=false:=by simp[Region.wanted,hg1,hy,hbw]
        rw[if_neg (by simp[hw])]
        simp only[Option.some.injEq,Prod.mk.injEq]at hone
        exact⟨fun f _=>hF.fn f,skips hone.1 hone.2⟩
      ·rename_i hb
       have hy:=yielded_skip hg2 hE hb
       have hw:Region.wanted om (yielded ops a.tmps)=false:=by simp[Region.wanted,hg1,hy]
       rw[if_neg (by simp[hw])]
       simp only[Option.some.injEq,Prod.mk.injEq]at hone
       exact⟨fun f _=>hF.fn f,skips hone.1 hone.2⟩
      ·cases hone
theorem draw_any(hst:StatOk (KP P) P T X)(hyl:YldOk (KP P) P T X) {F:Fence}(hF:Wide F) {n:Nat} {A:List AOper}(hlen:rs.length=A.length)(hops:ops.size=L.length)(hA: ∀j,j<A.length→L[j]? =A[j]?)(hAL:A.length≤L.length)
 (shown: ∀(j:Nat) o,A[j]? =some o→ ∃r,rs[j]? =some r∧Shown T X loc0 rest e0 A rs j o r) (fellow: ∀(j:Nat) o,L[j]? =some o→ ∃om,ops[j]? =some om∧Fellow P N ops L j om o)
 (htail: ∀(j:Nat) o,L[j]? =some o→A.length≤j→ ∀k,k<j→k∈o.pre)
 {ds:List Deferred} {wI:World} {γI:G} {Q:Exit→Act→World→Prop} {e':Env} {s':Stk} (hrun:runOps T X (L.drop A.length) (eAt (fun _=>true) 0 rs e0) (lAt (fun _=>true) 0 rs loc0::rest)=some (e',s'))
 (hQ: ∀a w γ,a.tmps.size=N→ER s'.length w γ e' a→SR (KP P) s' w γ→Ext (rest.length+1) wI γI w γ→s'.length=rest.length+1→a.defers=ds→Q .normal a w):
 ∀(fuel:Nat) (listed:Array Bool) {a:Act} {w:World} {γ:G},listed.size=ops.size→((List.range ops.size).filter fun j=> !listed.getD j true).length≤fuel→(∀j,A.length≤j→j<ops.size→listed.getD j false=false)→
  (∀(j:Nat) o,L[j]? =some o→listed.getD j false=true→ ∀i,i∈o.pre→listed.getD i false=true)→DInv P N rs loc0 rest e0 ds wI γI (fun j=>listed.getD j false) a w γ→
  wpAnyIn F n P .any ops Q fuel listed a w:=by
 have tail: ∀(fuel:Nat) (listed:Array Bool) {a:Act} {w:World} {γ:G},listed.size=ops.size→((List.range ops.size).filter fun j=> !listed.getD j true).length≤fuel→(∀j,A.length≤j→j<ops.size→listed.getD j false=false)→
  DInv P N rs loc0 rest e0 ds wI γI (fun j=>listed.getD j false) a w γ→(∀j,j<A.length→listed.getD j false=true)→wpAnyIn F n P .any ops Q fuel listed a w:=by
  intro fuel listed a w γ hsz hcount htl inv hall
  have hE:=inv.env
  rw[eAt_congr (D':=fun _=>true) rs 0 e0 (fun k hk=>by rw[Nat.zero_add];exact hall k (by omega))]at hE
  have hS:=inv.stk
  rw[lAt_congr (D':=fun _=>true) rs 0 loc0 (fun k hk=>by rw[Nat.zero_add];exact hall k (by omega))]at hS
  refine draw_tail hst hyl hF hops fellow (i0:=A.length) htail (ops.size-A.length) A.length fuel listed (by omega) (Nat.le_refl _) hsz (fun j hj=> ?_) ?_ hrun (by simp) inv.size hE hS (fun a' w' γ' q1 q2 q3 q4 q5 q6=> ?_)
  ·by_cases h:j<A.length
   ·simp[h,hall j h]
   ·simp[h,htl j (by omega) hj]
  ·refine Nat.le_trans ?_ hcount
   have:((List.range ops.size).filter fun j=> !listed.getD j true).length=ops.size-A.length:=by
    have h1:((List.range ops.size).filter fun j=> !listed.getD j true)=(List.range ops.size).filter fun j=>decide (A.length≤j):=by
     refine List.filter_congr fun j hj=> ?_
     have hj':=List.mem_range.1 hj
     rw[getD_iff _ _ (by omega)]
     by_cases h:j<A.length
     ·simp[hall j h,h]
     ·simp[htl j (by omega) hj',Nat.le_of_not_lt h]
    rw[h1]
    have: ∀(a b:Nat),a≤b→((List.range b).filter fun j=>decide (a≤j)).length=b-a:=by
     intro a b hab
     induction b with
     |zero=>simp
     |succ b ih=>
       rw[List.range_succ,List.filter_append,List.length_append]
       by_cases h:a≤b
       ·rw[ih h];simp[h];omega
       ·have hb:a=b+1:=by omega
        subst hb
        have:(List.range b).filter (fun j=>decide (b+1≤j))=[]:=by
         rw[List.filter_eq_nil_iff];intro x hx;have:=List.mem_range.1 hx;simp;omega
        rw[this];simp
    exact this _ _ (by omega)
   omega
  ·exact hQ a' w' γ' q1 q2 q3 (inv.ext.trans (by simpa using q4)) (by simpa using q5) (by rw[q6,inv.defers])
 intro fuel
 induction fuel with
 |zero=>
   intro listed a w γ hsz hcount htl hcl inv
   refine tail 0 listed hsz hcount htl inv fun j hj=> ?_
   cases h:listed.getD j false with
   |true=>rfl
   |false=>
     exfalso
     have:j∈(List.range ops.size).filter fun j=> !listed.getD j true:=List.mem_filter.2 ⟨List.mem_range.2 (by omega),by rw[getD_iff _ _ (by omega),h];rfl⟩
     have:=List.length_pos_of_mem this
     omega
 |succ fuel ih=>
   intro listed a w γ hsz hcount htl hcl inv
   by_cases hall: ∀j,j<A.length→listed.getD j false=true
   ·exact tail (fuel+1) listed hsz hcount htl inv hall
   ·simp only[Classical.not_forall]at hall
    obtain⟨j0,hj0,hf0⟩:=hall
    have hfirst: ∃j1,j1<A.length∧listed.getD j1 false=false∧ ∀k,k<j1→listed.getD k false=true:=by
     have: ∀m j,j≤m→j<A.length→listed.getD j false=false→ ∃j1,j1<A.length∧listed.getD j1 false=false∧ ∀k,k<j1→listed.getD k false=true:=by
      intro m
      induction m with
      |zero=>intro j hj h1 h2;exact⟨j,h1,h2,fun k hk=>by omega⟩
      |succ m ihm=>
        intro j hj h1 h2
        by_cases hx: ∀k,k<j→listed.getD k false=true
        ·exact⟨j,h1,h2,hx⟩
        ·simp only[Classical.not_forall]at hx
         obtain⟨k,hk,hk2⟩:=hx
         exact ihm k (by omega) (by omega) (by simpa using hk2)
     exact this j0 j0 (Nat.le_refl _) hj0 (by simpa using hf0)
    obtain⟨j1,hj1,hf1,hb1⟩:=hfirst
    have hready:j1∈Region.ready .any ops listed:=by
     have hLj:L[j1]? =some L[j1]:=by simp[show j1<L.length by omega]
     obtain⟨om,hom,fe⟩:=fellow j1 _ hLj
     exact ready_of hom fe (by rw[getD_iff _ _ (by omega)];exact hf1) hb1
    refine⟨fun hr=>(by rw[hr]at hready;cases hready),fun i hi=> ?_⟩
    obtain⟨o,om,hLi,hom,fe,h1,hpre⟩:=ready_pre hops fellow hcl hi
    have hlt:i<ops.size:=(Array.getElem?_eq_some_iff.1 hom).1
    have hDi:listed.getD i false=false:=by rw[←getD_iff _ _ (by omega)];exact h1
    have hiA:i<A.length:=by
     cases Nat.lt_or_ge i A.length with
     |inl h=>exact h
     |inr h=>
       exfalso
       have:=hpre j1 (htail i o hLi h j1 (by omega))
       rw[hf1]at this;cases this
    have hAi:A[i]? =some o:=by rw[←hA i hiA];exact hLi
    obtain⟨m,hop⟩:=fe.op
    refine draw_step hst hyl hF hlen shown inv hom hAi hop fe.dst fe.lt fe.guard hDi hpre (fun j oj hj hDj hin=> ?_) (fun a' w' γ' inv'=> ?_)
    ·have hjA:j<A.length:=(List.getElem?_eq_some_iff.1 hj).1
     have:=hcl j oj (by rw[hA j hjA];exact hj) hDj i hin
     rw[hDi]at this;cases this
    ·have hset: ∀j,(listed.setIfInBounds i true).getD j false=(listed.getD j false||j==i):=by
      intro j
      by_cases e:i=j
      ·subst e
       simp[Array.getD_eq_getD_getElem?,hsz,hlt]
      ·rw[getD_set_ne false e]
       simp[show(j==i)=false by simp;exact fun h=>e h.symm]
     refine ih (listed.setIfInBounds i true) (γ:=γ') (by simpa using hsz) ?_ (fun j h2 h3=> ?_) (fun j o' ho hD p hp=> ?_) ?_
     ·have:((List.range ops.size).filter fun j=> !(listed.setIfInBounds i true).getD j true).length<((List.range ops.size).filter fun j=> !listed.getD j true).length:=by
       refine filter_lt _ (fun x _ hx=> ?_) (List.mem_range.2 hlt) (by rw[h1];rfl) ?_
       ·by_cases e:i=x
        ·subst e
         have:(listed.setIfInBounds i true).getD i true=true:=by rw[getD_iff _ _ (by simpa [hsz]using hlt),hset];simp
         rw[this]at hx;cases hx
        ·rwa [getD_set_ne true e]at hx
       ·have:(listed.setIfInBounds i true).getD i true=true:=by rw[getD_iff _ _ (by simpa [hsz]using hlt),hset];simp
        rw[this];rfl
      omega
     ·rw[hset,htl j h2 h3]
      simp;omega
     ·rw[hset]at hD⊢
      simp only[Bool.or_eq_true,beq_iff_eq]at hD⊢
      rcases hD with hD|rfl
      ·exact .inl (hcl j o' ho hD p hp)
      ·rw[hLi]at ho;cases ho
       exact .inl (hpre p hp)
     ·have hfun:(fun j=>(listed.setIfInBounds i true).getD j false)=fun j=>listed.getD j false||j==i:=funext hset
      rw[hfun];exact inv'
theorem draw_ok(hm:P.follows .mixedOrders=true)(hst:StatOk (KP P) P T X)(hyl:YldOk (KP P) P T X):DrawOk P T X:=by
 intro N id ops muts al als live hals hpr e s ex e' s' h F hF n w0 w γ a hp
 cases s with
 |nil=>exact absurd rfl hp.ne
 |cons loc0 rest=>
   obtain⟨cl,cg⟩:=compOpers_get hals
   obtain⟨dl,dg⟩:=drawn_get (al:=al) (als:=als) (ps:=Ab.pres ops.toList []) als.zipIdx
   have hL:(drawn al als (Ab.pres ops.toList []) als.zipIdx).length=ops.size:=by rw[dl];simp[cl]
   have pre_of: ∀(j:Nat),j<ops.size→ ∃o ao,(drawn al als (Ab.pres ops.toList []) als.zipIdx)[j]? =some o∧als[j]? =some ao∧o.dst=ao.dst∧o.op=ao.op∧o.guard=ao.guard∧o.pre=(Ab.pres ops.toList []).getD j []:=by
    intro j hj
    have hja:j<als.length:=by rw[cl];simpa using hj
    have hz:als.zipIdx[j]? =some (als[j],j):=by rw[List.getElem?_zipIdx];simp[hja]
    obtain⟨o,h1,h2,h3,h4,h5⟩:=dg j _ hz
    exact⟨o,als[j],h1,by simp[hja],h2,h3,h4,h5⟩
   have fellow: ∀(j:Nat) o,(drawn al als (Ab.pres ops.toList []) als.zipIdx)[j]? =some o→ ∃om,ops[j]? =some om∧Fellow P N ops (drawn al als (Ab.pres ops.toList []) als.zipIdx) j om o:=by
    intro j o ho
    have hj:j<ops.size:=by rw[←hL];exact(List.getElem?_eq_some_iff.1 ho).1
    obtain⟨o',ao,h1,h2,h3,h4,h5,h6⟩:=pre_of j hj
    rw[ho]at h1;cases h1
    have hz:ops.toList.zipIdx[j]? =some (ops[j],j):=by rw[List.getElem?_zipIdx];simp[hj]
    obtain⟨ao',m,c1,c2,c3,c4,c5⟩:=cg j _ hz
    rw[h2]at c1;cases c1
    have hpk:=presOk_get hpr j ops[j] (by simp[hj])
    simp only[Nat.zero_add]at hpk
    refine⟨ops[j],by simp[hj],⟨⟨m,by rw[h4];exact c3⟩,h3.trans c2,c4,by rw[h5];exact c5,fun i hi=>by rw[h6];exact hpk.1 i hi,fun i hi=> ?_⟩⟩
    rw[h6]at hi
    obtain⟨q1,q2⟩:=hpk.2 i hi
    refine⟨q1,?_⟩
    rcases q2 with q2|⟨q,q3,q4⟩
    ·exact .inl q2
    ·have hq:=(hpk.1 q q3).1
     obtain⟨oq,_,k1,_,_,_,_,k6⟩:=pre_of q (by omega)
     exact .inr ⟨q,oq,q3,k1,by rw[k6];exact q4⟩
   have hempty: ∀j,(Array.replicate ops.size false).getD j false=false:=fun j=>by
    simp only[Array.getD_eq_getD_getElem?,Array.getElem?_replicate]
    split<;>rfl
   simp only[stepDrawn]at h
   split at h
   ·split at h
    rotate_left
    ·cases h
    rename_i e1 s1 hrun
    simp only[Option.some.injEq,Prod.mk.injEq]at h
    obtain⟨rfl,rfl,rfl⟩:=h
    have hx:Ext (rest.length+1) w γ {w with drawn:=w.drawn+1} γ:=Ext.drew _ w γ
    refine wpIn_region_any hm (draw_each hst hyl hF (N:=N) (L:=drawn al als (Ab.pres ops.toList []) als.zipIdx) hL.symm fellow (live:=live) _ [] ops.size _ (by simp) (fun j _=> ?_) ?_ (fun j o _ hD=> ?_) hrun (by simp) hp.size ((hp.env.ext hx)) hp.stk.drew (fun a' w' γ' q1 q2 q3 q4 q5 q6=> ?_))
    ·rw[hempty];simp
    ·exact Nat.le_trans (List.length_filter_le _ _) (by simp)
    ·exfalso
     rw[hempty]at hD;cases hD
    ·have hdep:dep (loc0::rest)=rest.length:=by simp[dep]
     have q4':=hx.trans q4
     exact⟨rfl,γ',q1,q2,q3,by rw[hdep];exact q4'.mono (by omega),by simpa using q5,by rw[q6];exact hp.marks.ext q4'⟩
   split at h
   ·rename_i rs hrs
    split at h
    rotate_left
    ·cases h
    rename_i e1 s1 hrun
    simp only[Option.some.injEq,Prod.mk.injEq]at h
    obtain⟨rfl,rfl,rfl⟩:=h
    have happ:=cut_append (drawn al als (Ab.pres ops.toList []) als.zipIdx) 0
    have hord:=cut_ordered (drawn al als (Ab.pres ops.toList []) als.zipIdx) 0
    rw[Nat.zero_add]at hord
    generalize hA:(cut 0 (drawn al als (Ab.pres ops.toList []) als.zipIdx)).1=A at*
    generalize hB:(cut 0 (drawn al als (Ab.pres ops.toList []) als.zipIdx)).2=B at*
    obtain⟨_,hlen,hsh⟩:=runDrawn_shown A _ 0 [] rs hrs rfl (by simp)
    have shown: ∀(j:Nat) o,A[j]? =some o→ ∃r,rs[j]? =some r∧Shown T X loc0 rest e A rs j o r:=fun j o ho=>by
     have:=hsh j o ho
     rwa [Nat.zero_add]at this
    have hr: ∀k,k<rs.length→(List.range rs.length).contains (0+k)=true:=fun k hk=>by simp[hk]
    rw[dEnv_all rs 0 e hr,dLoc_all rs 0 loc0 hr]at hrun
    have hdrop:(drawn al als (Ab.pres ops.toList []) als.zipIdx).drop A.length=B:=by rw[←happ];simp
    refine wpIn_region_any hm (draw_any hst hyl hF (N:=N) (L:=drawn al als (Ab.pres ops.toList []) als.zipIdx) (A:=A) (rs:=rs) (loc0:=loc0) (rest:=rest) (e0:=e) (by rw[hlen];simp) hL.symm (fun j hj=> ?_) ?_ shown fellow (fun j o ho hj k hk=> ?_) (ds:=a.defers) (wI:=w) (γI:=γ) (by rw[hdrop];exact hrun) ?_ ops.size _ (by simp) ?_ ?_ ?_ (γ:=γ) ?_)
    ·rw[←happ,List.getElem?_append_left hj]
    ·rw[←happ];simp
    ·rw[←happ,List.getElem?_append_right hj]at ho
     exact ordered_get B A.length hord (j-A.length) o ho k (by omega)
    ·intro a' w' γ' q1 q2 q3 q4 q5 q6
     have hdep:dep (loc0::rest)=rest.length:=by simp[dep]
     exact⟨rfl,γ',q1,q2.only live,q3,by rw[hdep];exact q4.mono (by omega),by simpa using q5,by rw[q6];exact hp.marks.ext q4⟩
    ·exact Nat.le_trans (List.length_filter_le _ _) (by simp)
    ·intro j _ _;exact hempty j
    ·intro j o _ hD
     exfalso
     rw[hempty]at hD;cases hD
    ·have hf:(fun j=>(Array.replicate ops.size false).getD j false)=fun _=>false:=funext hempty
     rw[hf]
     have e1: ∀(rs:List Did) (j:Nat) (e:Env),eAt (fun _=>false) j rs e=e:=by
      intro rs
      induction rs with
      |nil=>intros;rfl
      |cons r rs ih=>intro j e;exact ih _ _
     have e2: ∀(rs:List Did) (j:Nat) (loc:Loc),lAt (fun _=>false) j rs loc=loc:=by
      intro rs
      induction rs with
      |nil=>intros;rfl
      |cons r rs ih=>intro j e;exact ih _ _
     have hx:Ext (rest.length+1) w γ {w with drawn:=w.drawn+1} γ:=Ext.drew _ w γ
     exact⟨by rw[e1];exact hp.env.ext hx,by rw[e2];exact hp.stk.drew,hp.size,hx,rfl⟩
   ·cases h
theorem den_sound(hm:P.follows .mixedOrders=true)(tab:TabOk P T) {f:FuncId} {args:List V} {lab:Nat} {s:Stk} {v:V} {s':Stk}(h:den T f args lab s=some (v,s')):
 Enters P f∧ ∀w γ us,LR s.length w γ args us→SR (KP P) s w γ→Calls P f us.toArray w (CPost (KP P) s w γ v s'):=by
 obtain⟨n,hn⟩:=enter_cont h
 exact stat_of_code tab (code_ok tab (fun X h1 h2=>draw_ok hm h1 h2) n) f args lab s v s' hn
end
end Go.Ab

/-
  The evaluator's equations, for simp.
-/
namespace Go.Ab
section
variable {T : Tab}
theorem run_skip(e s):Run T .skip e s=some (.normal,e,s):=run_eq ..
theorem run_label(e s):Run T .label e s=some (.normal,e,s):=run_eq ..
theorem run_ret(e s):Run T .ret e s=some (.ret,e,s):=run_eq ..
theorem run_exit(id e s):Run T (.exit id) e s=some (.exit id,e,s):=run_eq ..
noncomputable def thenRun(T:Tab)(r:Res)(b:AC):Res:=match r with
 |some (.normal,e',s')=>Run T b e' s'
 |r=>r
theorem run_seq(a b e s):Run T (.seq a b) e s=thenRun T (Run T a e s) b:=by rw[run_eq];rfl
theorem thenRun_normal(e s b):thenRun T (some (.normal,e,s)) b=Run T b e s:=rfl
theorem thenRun_ret(e s b):thenRun T (some (.ret,e,s)) b=some (.ret,e,s):=rfl
theorem thenRun_exit(id e s b):thenRun T (some (.exit id,e,s)) b=some (.exit id,e,s):=rfl
open Classical in
noncomputable def bothRes(x y:Res):Res:=match x,y with
 |some r1,some r2=>if r1=r2 then some r1 else none
 |_,_=>none
open Classical in
theorem bothRes_same(r:Ex×Env×Stk):bothRes (some r) (some r)=some r:=by simp[bothRes]
noncomputable def condRes(v:V)(x y:Res):Res:=match v with
 | .bool true=>x
 | .bool false=>y
 | .anyb=>bothRes x y
 |_=>none
theorem run_cond(c a b e s):Run T (.cond c a b) e s=condRes (c.ev e) (Run T a e s) (Run T b e s):=by
 rw[run_eq];simp only[step]
 cases c.ev e with
 |bool x=>cases x<;>rfl
 |_=>rfl
theorem thenRun_ite(p:Prop) [Decidable p](x y k):thenRun T (if p then x else y) k=if p then thenRun T x k else thenRun T y k:=by split<;>rfl
theorem beq_int(a b:Int):(a==b)=decide (a=b):=by rw[Bool.eq_iff_iff];simp
def blockRes(id:Nat)(r:Res):Res:=match r with
 |some (.exit k,e',s')=>some (if k=id then .normal else .exit k,e',s')
 |r=>r
theorem blockRes_ite(id:Nat)(p:Prop) [Decidable p](x y):blockRes id (if p then x else y)=if p then blockRes id x else blockRes id y:=by split<;>rfl
theorem blockRes_normal(id e s):blockRes id (some (.normal,e,s))=some (.normal,e,s):=rfl
theorem blockRes_ret(id e s):blockRes id (some (.ret,e,s))=some (.ret,e,s):=rfl
theorem blockRes_exit(id k e s):blockRes id (some (.exit k,e,s))=some (if k=id then .normal else .exit k,e,s):=rfl
theorem run_block(id b e s):Run T (.block id b) e s=blockRes id (Run T b e s):=by rw[run_eq];rfl
theorem run_scope(b e s):Run T (.scope b) e s=Run T b e s:=by rw[run_eq];rfl
theorem run_loop(live keep b e s):Run T (.loop live keep b) e s=thenRun T (Run T b (gcEnv live keep e s) (gcStk keep s)) (.loop live keep b):=by
 rw[run_eq];rfl
theorem run_only(b e s):Run T (.only b) e s=onlyRet (Run T b e s):=by rw[run_eq];rfl
theorem w64(n:Int)(h: -9223372036854775808≤n∧n≤9223372036854775807):IntKind.i64.wrap n=n:=IntWalk.i64_in n h
theorem den_code {f:FuncId} {fn:AFn}(h:T.fns f=some (.code fn))(args lab s):den T f args lab s=if args.length=fn.np then
 match Run T fn.body (argEnv 0 args) ([]::s)with
 |some (ex,e',s1)=>
   match ex with
   | .exit _=>none
   |_=>match s1 with
     |[]=>none
     |loc::s'=>match results e' s1 fn.res with
       |none=>none
       |some vs=>adopt fn.own loc (pack vs) lab s'
 |none=>none
 else none:=by unfold den enter;rw[h];rfl
end
end Go.Ab

/-
  Arguments: what reads as data reads as a value of the evaluator's.
-/
namespace Go.Ab
section
variable {H : Type} {enc : TypeId × Value → H} {P : Program} {w : World}
def rdAll(g:DataW H→Option (List V)):List (DataW H)→Option (List (List V))
 |[]=>some []
 |d::r=>match g d,rdAll g r with
   |some a,some b=>some (a::b)
   |_,_=>none
def rdF(P:Program)(g:TypeId→DataW H→Option (List V))(tot:Nat):List Field→Nat→List (DataW H)→Option (List V)
 |[],off,[]=>if off=tot then some []else none
 |f::fs,off,d::ds=>if f.offset=off then(match g f.type d,rdF P g tot fs (off+P.cellsOf f.type) ds with
   |some a,some b=>if a.length=P.cellsOf f.type then some (a ++b)else none
   |_,_=>none)else none
 |_,_,_=>none
def rd(P:Program):Nat→TypeId→DataW H→Option (List V)
 |0,_,_=>none
 |n+1,t,d=>match P.underlying t with
   |some .bool=>match d with
     | .lit (.bool b)=>some [.bool b]
     |_=>none
   |some (.int _)=>match d with
     | .lit (.int k x)=>some [.int k x]
     |_=>none
   |some (.slice e)=>match d with
     | .nil=>some [.sl .no (P.cellsOf e) []]
     | .slice es _=>if 0<P.cellsOf e then(rdAll (rd P n e) es).map fun xs=>[.sl .no (P.cellsOf e) xs]else none
     |_=>none
   |some (.struct fs)=>match d with
     | .agg ps=>rdF P (rd P n) (P.cellsOf t) fs.toList 0 ps
     |_=>none
   |_=>none
def γ0:G:=fun _ _=>none
theorem own0 {b off:Nat}: ¬Own γ0 b off:=by rintro⟨d,l,g,h,_⟩;cases h
theorem elemAll_append {a b:List V}(ha:V.elemAll a=true)(hb:V.elemAll b=true):V.elemAll (a ++b)=true:=by
 induction a with
 |nil=>exact hb
 |cons x r ih=>simp[V.elemAll]at ha⊢;exact⟨ha.1,ih ha.2⟩
theorem rdAll_get {g:DataW H→Option (List V)}: ∀ {ds:List (DataW H)} {xs:List (List V)},rdAll g ds=some xs→xs.length=ds.length∧ ∀(i:Nat) d,ds[i]? =some d→ ∃x,xs[i]? =some x∧g d=some x
 |[],xs,h=>by simp[rdAll]at h;subst h;simp
 |d::r,xs,h=>by
   simp only[rdAll]at h
   split at h
   ·rename_i a b h1 h2
    cases h
    obtain⟨k1,k2⟩:=rdAll_get h2
    refine⟨by simp[k1],fun i d' hd=> ?_⟩
    cases i with
    |zero=>simp at hd;subst hd;exact⟨a,rfl,h1⟩
    |succ i=>exact k2 i d' (by simpa using hd)
   ·cases h
theorem rdF_ok {D:Nat} {γ:G} {g:TypeId→DataW H→Option (List V)} {tot:Nat} {cs:List Value}(htot:cs.length=tot): ∀(fs:List Field) (off:Nat) (ds:List (DataW H)) {vs:List V},rdF P g tot fs off ds=some vs→
 (∀(i:Nat) f d a,fs[i]? =some f→ds[i]? =some d→g f.type d=some a→LR D w γ a ((cs.drop f.offset).take (P.cellsOf f.type))∧V.elemAll a=true)→off≤tot→LR D w γ vs (cs.drop off)∧V.elemAll vs=true
 |[],off,[],vs,h,_,hle=>by
   simp only[rdF]at h
   split at h
   ·rename_i ho
    cases h
    subst ho
    refine⟨?_,rfl⟩
    rw[List.drop_eq_nil_of_le (by omega)]
    exact LR.nil
   ·cases h
 |[],off,_::_,vs,h,_,_=>by simp[rdF]at h
 |_::_,off,[],vs,h,_,_=>by simp[rdF]at h
 |f::fs,off,d::ds,vs,h,hf,hle=>by
   simp only[rdF]at h
   split at h
   ·rename_i ho
    split at h
    ·rename_i a b h1 h2
     split at h
     ·rename_i hal
      cases h
      obtain⟨k1,k2⟩:=hf 0 f d a rfl rfl h1
      have hlen:((cs.drop f.offset).take (P.cellsOf f.type)).length=P.cellsOf f.type:=by rw[←k1.1];exact hal
      have hle2:off+P.cellsOf f.type≤tot:=by
       simp only[List.length_take,List.length_drop]at hlen
       omega
      obtain⟨k3,k4⟩:=rdF_ok htot fs (off+P.cellsOf f.type) ds h2 (fun i f' d' a' q1 q2 q3=>hf (i+1) f' d' a' (by simpa using q1) (by simpa using q2) q3) hle2
      refine⟨?_,elemAll_append k2 k4⟩
      have:=k1.append k3
      rw[ho,←List.drop_drop,List.take_append_drop]at this
      exact this
     ·cases h
    ·cases h
   ·cases h
theorem rd_vr {D:Nat} {sp:Nat→Bool}: ∀(n:Nat) {t:TypeId} {cs:List Value} {d:DataW H} {ps:List MemPlace} {m:Nat} {vs:List V},DataW.trod enc P w 0 sp true m t cs=some (d,ps)→rd P n t d=some vs→LR D w γ0 vs cs∧V.elemAll vs=true
 |0,_,_,_,_,_,_,_,h=>by simp[rd]at h
 |n+1,t,cs,d,ps,m,vs,ht,h=>by
   simp only[rd]at h
   split at h
   ·rename_i hu
    obtain⟨b,rfl,hx⟩:=DataW.trod_bool hu ht
    cases hx
    simp only[Option.some.injEq]at h;subst h
    exact⟨LR.cons (.bool b) LR.nil,rfl⟩
   ·rename_i k hu
    obtain⟨x,rfl,hx,_⟩:=DataW.trod_int hu ht
    cases hx
    simp only[Option.some.injEq]at h;subst h
    exact⟨LR.cons (.int k x) LR.nil,rfl⟩
   ·rename_i e hu
    rcases DataW.trod_slice hu ht with ⟨rfl,hx⟩|⟨a,len,cap,elems,rest,n',rfl,rfl,hx,_,hl,hmax,hlen,hel,_,_⟩
    ·cases hx
     simp only[Option.some.injEq]at h;subst h
     exact⟨LR.cons (.slnil _ _ trivial) LR.nil,rfl⟩
    ·cases hx
     dsimp only at h
     split at h
     ·rename_i hc
      obtain⟨xs,h1,rfl⟩:=Option.map_eq_some_iff.1 h
      obtain⟨k1,k2⟩:=rdAll_get h1
      have hxl:xs.length=len:=by rw[k1];simp[hlen]
      refine⟨LR.cons ?_ LR.nil,rfl⟩
      have each: ∀i,i<len→ ∃x cs',xs[i]? =some x∧w.cells? 0 (a.add (i*P.cellsOf e)) (P.cellsOf e)=some cs'∧LR D w γ0 x cs'∧V.elemAll x=true:=by
       intro i hi
       have hi':i<elems.length:=by omega
       have h2:=hel i hi
       rw[List.getElem?_eq_getElem hi']at h2
       obtain⟨cs',q1,q2⟩:=Option.bind_eq_some_iff.1 h2
       obtain⟨x,q3,q4⟩:=k2 i elems[i].1 (by simp[hi'])
       obtain⟨q5,q6⟩:=rd_vr n (d:=elems[i].1) (ps:=elems[i].2) q2 q4
       exact⟨x,cs',q3,q1,q5,q6⟩
      by_cases h0:len=0
      ·subst h0
       have:xs=[]:=List.eq_nil_of_length_eq_zero hxl
       subst this
       exact .sl0 _ _ a cap trivial
      ·have hspot:a=⟨a.block,a.off,none⟩:=by
        obtain⟨x,cs',_,q1,q2,_⟩:=each 0 (by omega)
        obtain⟨c1,c2,c3⟩:=World.cells?_some q1
        have hlt:0<cs'.length:=by omega
        have:=c3 0 hc
        simp only[Nat.zero_mul,Addr.add,if_true]at this
        obtain⟨b,o,sp⟩:=a
        cases sp with
        |none=>rfl
        |some q=>
          have hn:w.cell? ⟨b,o,some q⟩=none:=by simp only[World.cell?];split<;>simp
          rw[hn,List.getElem?_eq_getElem hlt]at this
          cases this
       have cellAt: ∀(i:Nat) x (j:Nat) v,xs[i]? =some x→x[j]? =some v→ ∃u,w.cell? ⟨a.block,a.off+(i*P.cellsOf e+j),none⟩=some u∧VR D w γ0 v u:=by
        intro i x j v hi hj
        have hi':i<len:=by rw[←hxl];exact(List.getElem?_eq_some_iff.1 hi).1
        obtain⟨x',cs',q3,q1,q2,_⟩:=each i hi'
        rw[hi]at q3;cases q3
        obtain⟨c1,c2,c3⟩:=World.cells?_some q1
        have hjl:j<cs'.length:=by rw[←q2.1];exact(List.getElem?_eq_some_iff.1 hj).1
        have:=c3 j (by omega)
        rw[List.getElem?_eq_getElem hjl]at this
        refine⟨cs'[j],?_,q2.2 j v _ hj (by simp)⟩
        rw[hspot,Addr.add_lit,Addr.add_lit]at this
        rw[←Nat.add_assoc]
        exact this
       rw[hspot,←hxl]
       refine .sl .no _ xs a.block a.off cap (fun x hx=> ?_) (fun x hx=> ?_) (by omega) trivial (fun i x j v hi hj=> ?_) (fun _ _ _ _ _ _=>own0) (fun i x j v u hi hj hu=> ?_)
       ·obtain⟨i,hi,rfl⟩:=List.getElem_of_mem hx
        obtain⟨x',cs',q3,q1,q2,_⟩:=each i (by omega)
        rw[List.getElem?_eq_getElem hi]at q3;cases q3
        obtain⟨c1,c2,c3⟩:=World.cells?_some q1
        rw[q2.1];omega
       ·obtain⟨i,hi,rfl⟩:=List.getElem_of_mem hx
        obtain⟨x',cs',q3,q1,q2,q5⟩:=each i (by omega)
        rw[List.getElem?_eq_getElem hi]at q3;cases q3
        exact q5
       ·obtain⟨u,hu,_⟩:=cellAt i x j v hi hj
        exact⟨u,hu⟩
       ·obtain⟨u',hu',hv⟩:=cellAt i x j v hi hj
        rw[hu]at hu';cases hu'
        exact hv
     ·cases h
   ·rename_i fs hu
    obtain⟨xs,n',rfl,hx,hcl,hxl,hf⟩:=DataW.trod_struct hu ht
    cases hx
    dsimp only at h
    have:=rdF_ok (D:=D) (γ:=γ0) (w:=w) hcl fs.toList 0 _ h (fun i f d a q1 q2 q3=> ?_) (Nat.zero_le _)
    ·simpa using this
    ·have q1':fs[i]? =some f:=by simpa using q1
     have h2:=hf i f q1'
     rw[List.getElem?_map]at q2
     obtain⟨y,hy,rfl⟩:=Option.map_eq_some_iff.1 q2
     rw[hy]at h2
     exact rd_vr n (d:=y.1) (ps:=y.2) h2 q3
   ·cases h
end
end Go.Ab

/-
  A law: from 'den' to the row's post.
-/
namespace Go.Ab
open Go.ChangeShapes Go.WideShapes Go.RowKit
section
variable {H : Type} {enc : TypeId × Value → H} {P : Program} {W W' : World}
theorem trodAll_stays(hl:laidOutB P=true) {sp':Nat→Bool}: ∀ {ts:List TypeId} {vs:List Value} {ds:List (DataW H)} {ps:List MemPlace},(∀t∈ts,P.readableRec t=true∧t<P.types.size)→
 DataW.TrodAll enc P W 0 (fun _=>true) true ts vs ds ps→(∀p∈ps,W.sameAt W' p)→(∀p∈ps,sp' p.block=true)→DataW.TrodAll enc P W' 0 sp' true ts vs ds ps
 |[],vs,ds,ps,_,h,_,_=>by
   obtain⟨rfl,rfl,rfl⟩:=trodAll_nil h
   exact rfl
 |t::ts,vs,ds,ps,ht,h,hs,hp=>by
   obtain⟨v,vs1,d,ds1,a,b,rfl,rfl,rfl,h1,h2⟩:=trodAll_cons h
   exact⟨a,b,WideElems.Trod_stays hl (ht t (by simp)).1 (ht t (by simp)).2 h1 (fun p h=>hs p (by simp[h])) (fun p h=>hp p (by simp[h])),
    trodAll_stays hl (fun t' h=>ht t' (by simp[h])) h2 (fun p h=>hs p (by simp[h])) (fun p h=>hp p (by simp[h])),rfl⟩
theorem law_post {f:Func} {s:ChangeSpec} {args:Array Value} {ds gs:List (DataW H)} {before:List MemPlace} {tb:TypeId}(hl:laidOutB P=true)(ht: ∀t∈f.params.toList,P.readableRec t=true∧t<P.types.size)
 (hvars:s.vars=[]) (hfn: ∀ds gs,gs=[]→ds.length=f.params.size→s.fn H (ds ++gs)= {results:=[.lit (.bool true)],args:=ds}) (hres:f.resultTypes= #[tb]) (hb:P.underlying tb=some .bool)
 (hW:DataW.Whole enc P f.params.toList s.vars false W args.toList ds gs before) (hbl:Below W.heap.size W W'):s.post enc P f false true false false W args (.bool true) W':=by
 have hW':=hW
 have hlt:=hW.lt
 obtain⟨p,q,hA,hV,rfl,hz,hn⟩:=hW
 rw[hvars]at hV
 obtain⟨rfl,rfl⟩:=trodVars_none hV
 have hds:ds.length=f.params.size:=by
  have key: ∀ {ts:List TypeId} {vs:List Value} {ds:List (DataW H)} {ps:List MemPlace},DataW.TrodAll enc P W 0 (fun _=>true) true ts vs ds ps→ds.length=ts.length:=by
   intro ts
   induction ts with
   |nil=>intro vs ds ps h;obtain⟨rfl,rfl,rfl⟩:=trodAll_nil h;rfl
   |cons t ts ih=>intro vs ds ps h;obtain⟨v,vs1,d,ds1,a,b,rfl,rfl,rfl,h1,h2⟩:=trodAll_cons h;simp[ih h2]
  simpa using key hA
 have hfn':=hfn ds [] rfl hds
 refine⟨ds,[],p ++[],[],p,[],hW',?_,?_,?_,hbl.frame _,fun h=>by cases h⟩
 ·rw[hfn',hres]
  exact trodAll_mk1 ⟨1,by simp[DataW.trod,hb,Value.cells]⟩
 ·rw[hfn']
  exact trodAll_stays hl ht hA (fun x hx=>hbl.same (hlt x (by simp[hx]))) (fun x hx=>by simpa using hlt x (by simp[hx]))
 ·rw[hvars,hfn']
  exact rfl
theorem sr0 {K:KK}(hG:GlobOk K W γ0):SR K [] W γ0:=by
 refine⟨?_,?_,?_,?_,hG⟩
 ·intro d l x h;simp[sget]at h
 ·intro _ _ _;rfl
 ·intro d l g d' l' g' b h;cases h
 ·intro l g b h;cases h
theorem law_calls {T:Tab}(hm:P.follows .mixedOrders=true)(hG:GlobOk (KP P) W γ0)(tab:TabOk P T) {f:FuncId} {vs:List V} {args:Array Value}(hl:LR 0 W γ0 vs args.toList)(hd:den T f vs 0 []=some (.bool true,[])):
 Calls P f args W fun e W'=>e= .returned (.bool true)∧Below W.heap.size W W':=by
 have h:=(den_sound hm tab hd).2 W γ0 args.toList hl (sr0 hG)
 rw[Array.toArray_toList]at h
 have h2:CallsIn Fence.wide 0 P f args W (CPost (KP P) [] W γ0 (.bool true) []):=callsIn_wide.2 h
 refine callsIn_wide.1 (h2.mono ?_)
 rintro en w' ⟨u,γ',rfl,k1,_,k3,_⟩
 exact⟨by rw[k1.bool_inv],⟨k3.os,k3.tape,k3.output,k3.size,fun b hb=>k3.block b hb (fun off=>own0)⟩⟩
end
end Go.Ab

/-
  A table out of a list of functions that have been compiled.
-/
namespace Go.Ab
def Tab.of(l:List (FuncId×AFn)):Tab:=⟨fun f=>(l.lookup f).map .code⟩
theorem Tab.of_code {l:List (FuncId×AFn)} {f:FuncId} {fn:AFn}(h:l.lookup f=some fn):(Tab.of l).fns f=some (.code fn):=by simp[Tab.of,h]
def Compiled(P:Program)(x:FuncId×AFn):Prop:= ∃func ann,P.funcs[x.1]? =some func∧compFn P func ann=some x.2
theorem lookup_mem {l:List (FuncId×AFn)} {f:FuncId} {fn:AFn}(h:l.lookup f=some fn):(f,fn)∈l:=by
 induction l with
 |nil=>simp at h
 |cons x r ih=>
   obtain⟨k,y⟩:=x
   simp only[List.lookup_cons]at h
   split at h
   ·rename_i hk;simp at hk;subst hk;cases h;simp
   ·exact List.mem_cons_of_mem _ (ih h)
theorem Tab.of_ok {P:Program} {l:List (FuncId×AFn)}(h: ∀x∈l,Compiled P x):TabOk P (Tab.of l) where
 code:=fun f fn hf=>by
  simp only[Tab.of,Option.map_eq_some_iff]at hf
  obtain⟨fn',h1,h2⟩:=hf
  cases h2
  exact h (f,fn) (lookup_mem h1)
 prim:=fun f p hf=>by
  simp only[Tab.of,Option.map_eq_some_iff]at hf
  obtain⟨_,_,h2⟩:=hf
  cases h2
end Go.Ab

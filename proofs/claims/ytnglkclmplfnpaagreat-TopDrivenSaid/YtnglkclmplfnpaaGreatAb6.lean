/-
  Regions that draw their order: 'draw_ok'; THE SOUNDNESS OF THE EVALUATOR.
-/
import Derived.Test.YtnglkclmplfnpaaGreatAb5
import Derived.IntWalk
import Derived.OpenShut
import Derived.WalkKit
import Derived.ProofKit
import Derived.JoinedCond
set_option linter.unusedSimpArgs false
set_option linter.unusedVariables false
namespace Go.Ab
theorem filter_lt {α:Type} {p q:α→Bool}: ∀(l:List α),(∀x,x∈l→q x=true→p x=true)→ ∀ {i},i∈l→p i=true→q i=false→(l.filter q).length<(l.filter p).length
 |[],_,i,hi,_,_=>by simp at hi
 |x::l,h,i,hi,hp,hq=>by
   have mono:(l.filter q).length≤(l.filter p).length:=by
    clear hi
    have h': ∀x,x∈l→q x=true→p x=true:=fun x hx=>h x (by simp[hx])
    clear h
    induction l with
    |nil=>simp
    |cons y l ih=>
      have:=ih (fun x hx=>h' x (by simp[hx]))
      simp only[List.filter_cons]
      have hy:=h' y (by simp)
      split
      ·rename_i hqy
       rw[if_pos (hy hqy)]
       simp only[List.length_cons];omega
      ·split
       ·simp only[List.length_cons];omega
       ·exact this
   simp only[List.mem_cons]at hi
   simp only[List.filter_cons]
   rcases hi with rfl|hi
   ·rw[hp,hq]
    simp only[if_true,Bool.false_eq_true,if_false,List.length_cons];omega
   ·have:=filter_lt l (fun x hx=>h x (by simp[hx])) hi hp hq
    have hx:=h x (by simp)
    split
    ·rename_i hqx
     rw[if_pos (hx hqx)]
     simp only[List.length_cons];omega
    ·split
     ·simp only[List.length_cons];omega
     ·exact this
section
variable {P : Program} {T : Tab} {X : Exec} {N : Nat} {ops : Array Oper} {L : List AOper} {rs : List Did} {loc0 : Loc} {rest : Stk} {e0 : Env}
structure Fellow(P:Program)(N:Nat)(ops:Array Oper)(L:List AOper)(j:Nat)(om:Oper)(o:AOper):Prop where
 op: ∃m,compOpM P m om=some o.op
 dst:o.dst=om.dst
 lt: ∀d,om.dst=some d→d<N
 guard:(om.guard=none∧o.guard=none)∨ ∃g want slot,om.guard=some (g,want)∧(ops[g]?).bind (·.dst)=some slot∧o.guard=some (slot,want)
 pre1: ∀i,i∈directs om→i<j∧i∈o.pre
 pre2: ∀i,i∈o.pre→i<j∧(i∈directs om∨ ∃q oq,q∈directs om∧L[q]? =some oq∧i∈oq.pre)
theorem cut_append: ∀(l:List AOper) (i:Nat),(cut i l).1 ++(cut i l).2=l
 |[],_=>rfl
 |o::r,i=>by
   simp only[cut]
   split
   ·rfl
   ·simp only[List.cons_append,cut_append r (i+1)]
theorem cut_ordered: ∀(l:List AOper) (i:Nat),ordered (i+(cut i l).1.length) (cut i l).2=true
 |[],_=>rfl
 |o::r,i=>by
   simp only[cut]
   split
   ·rename_i h;simpa using h
   ·have:=cut_ordered r (i+1)
    simp only[List.length_cons]
    rw[show i+((cut (i+1) r).1.length+1)=i+1+(cut (i+1) r).1.length by omega]
    exact this
theorem ordered_get: ∀(l:List AOper) (i:Nat),ordered i l=true→ ∀(k:Nat) o,l[k]? =some o→ ∀m,m<i+k→m∈o.pre
 |[],_,_,_,_,h,_,_=>by simp at h
 |o::r,i,h,k,o',hk,m,hm=>by
   simp only[ordered,Bool.and_eq_true,List.all_eq_true,List.mem_range,List.contains_eq_mem,decide_eq_true_eq]at h
   cases k with
   |zero=>simp at hk;subst hk;exact h.1 m (by omega)
   |succ k=>exact ordered_get r (i+1) h.2 k o' (by simpa using hk) m (by omega)
theorem getD_iff(listed:Array Bool)(j:Nat)(h:j<listed.size):listed.getD j true=listed.getD j false:=by simp[Array.getD_eq_getD_getElem?,h]
theorem ready_pre(hops:ops.size=L.length)(fellow: ∀(j:Nat) o,L[j]? =some o→ ∃om,ops[j]? =some om∧Fellow P N ops L j om o) {listed:Array Bool}(hcl: ∀(j:Nat) o,L[j]? =some o→listed.getD j false=true→ ∀i,i∈o.pre→listed.getD i false=true)
 {i:Nat} (hi:i∈Region.ready .any ops listed): ∃o om,L[i]? =some o∧ops[i]? =some om∧Fellow P N ops L i om o∧listed.getD i true=false∧ ∀j,j∈o.pre→listed.getD j false=true:=by
 obtain⟨h1,om,hom,hall⟩:=mem_ready.1 hi
 have hlt:i<ops.size:=(Array.getElem?_eq_some_iff.1 hom).1
 have hLi:L[i]? =some L[i]:=by simp[show i<L.length by omega]
 obtain⟨om',hom',fe⟩:=fellow i _ hLi
 rw[hom]at hom';cases hom'
 have hdirect: ∀q,q∈directs om→listed.getD q false=true:=by
  intro q hq
  unfold directs at hq
  obtain⟨ed,hed,rfl⟩:=List.mem_map.1 hq
  obtain⟨hed1,hed2⟩:=List.mem_filter.1 hed
  exact hall ed (by simpa using hed1) hed2
 refine⟨L[i],om,hLi,hom,fe,h1,fun j hj=> ?_⟩
 rcases (fe.pre2 j hj).2 with h|⟨q,oq,hq,hoq,hjq⟩
 ·exact hdirect j h
 ·exact hcl q oq hoq (hdirect q hq) j hjq
theorem ready_of {om:Oper} {o:AOper} {i:Nat}(hom:ops[i]? =some om)(fe:Fellow P N ops L i om o) {listed:Array Bool}(h:listed.getD i true=false)(hall: ∀j,j<i→listed.getD j false=true):i∈Region.ready .any ops listed:=by
 rw[mem_ready]
 refine⟨h,om,hom,fun ed hed hb=> ?_⟩
 have hin:ed.on∈directs om:=by
  unfold directs
  exact List.mem_map.2 ⟨ed,List.mem_filter.2 ⟨by simpa using hed,hb⟩,rfl⟩
 exact hall _ (fe.pre1 _ hin).1
theorem draw_tail(hst:StatOk (KP P) P T X)(hyl:YldOk (KP P) P T X) {F:Fence}(hF:Wide F) {n:Nat}(hops:ops.size=L.length)
 (fellow: ∀(j:Nat) o,L[j]? =some o→ ∃om,ops[j]? =some om∧Fellow P N ops L j om o) {i0:Nat} (htail: ∀(j:Nat) o,L[j]? =some o→i0≤j→ ∀k,k<j→k∈o.pre)
 {Q:Exit→Act→World→Prop} {e':Env} {s':Stk}: ∀(r t fuel:Nat) (listed:Array Bool) {e:Env} {s:Stk} {a:Act} {w:World} {γ:G},t+r=ops.size→i0≤t→listed.size=ops.size→
  (∀j,j<ops.size→(listed.getD j false=true↔j<t))→r≤fuel→runOps T X (L.drop t) e s=some (e',s')→s≠[]→a.tmps.size=N→ER s.length w γ e a→SR (KP P) s w γ→
  (∀a' w' γ',a'.tmps.size=N→ER s'.length w' γ' e' a'→SR (KP P) s' w' γ'→Ext s.length w γ w' γ'→s'.length=s.length→a'.defers=a.defers→Q .normal a' w')→wpAnyIn F n P .any ops Q fuel listed a w:=by
 intro r
 induction r with
 |zero=>
   intro t fuel listed e s a w γ ht hi hsz hl hf hr hs hN hE hS hQ
   rw[List.drop_eq_nil_of_le (by omega)]at hr
   simp only[runOps,Option.some.injEq,Prod.mk.injEq]at hr
   obtain⟨rfl,rfl⟩:=hr
   have hq:=hQ a w γ hN hE hS (Ext.refl _ _ _) rfl rfl
   have hnil:Region.ready .any ops listed=[]:=by
    cases hrd:Region.ready .any ops listed with
    |nil=>rfl
    |cons i l=>
      exfalso
      have hi:i∈Region.ready .any ops listed:=by rw[hrd];simp
      obtain⟨h1,o,ho,_⟩:=mem_ready.1 hi
      have hlt:i<ops.size:=(Array.getElem?_eq_some_iff.1 ho).1
      rw[getD_iff _ _ (by omega)]at h1
      have:=(hl i hlt).2 (by omega)
      rw[h1]at this;cases this
   cases fuel with
   |zero=>exact⟨hnil,hq⟩
   |succ fuel=>exact⟨fun _=>hq,fun i hi=>by rw[hnil]at hi;cases hi⟩
 |succ r ih=>
   intro t fuel listed e s a w γ ht hi hsz hl hf hr hs hN hE hS hQ
   have htl:t<L.length:=by omega
   have hLt:L[t]? =some L[t]:=by simp[htl]
   obtain⟨om,hom,fe⟩:=fellow t _ hLt
   have hcl: ∀(j:Nat) o,L[j]? =some o→listed.getD j false=true→ ∀i,i∈o.pre→listed.getD i false=true:=by
    intro j o hj hd i hip
    obtain⟨omj,homj,fej⟩:=fellow j o hj
    have h1:=(fej.pre2 i hip).1
    have hjl:j<ops.size:=(Array.getElem?_eq_some_iff.1 homj).1
    exact(hl i (by omega)).2 (by have:=(hl j hjl).1 hd;omega)
   have hunt:listed.getD t true=false:=by
    rw[getD_iff _ _ (by omega)]
    cases h:listed.getD t false with
    |false=>rfl
    |true=>have:=(hl t (by omega)).1 h;omega
   have hready:t∈Region.ready .any ops listed:=ready_of hom fe hunt fun j hj=>(hl j (by omega)).2 hj
   cases fuel with
   |zero=>omega
   |succ fuel=>
     refine⟨fun h=>(by rw[h]at hready;cases hready),fun i hi'=> ?_⟩
     obtain⟨o,om',hLi,hom',fe',h1,hpre⟩:=ready_pre hops fellow hcl hi'
     have hil:i<ops.size:=(Array.getElem?_eq_some_iff.1 hom').1
     have hit:i=t:=by
      rw[getD_iff _ _ (by omega)]at h1
      have h2: ¬i<t:=fun h=>by have:=(hl i hil).2 h;rw[h1]at this;cases this
      have h3: ¬t<i:=fun h=>by
       have:=(hl t (by omega)).1 (hpre t (htail i o hLi (by omega) t h))
       omega
      omega
     subst hit
     rw[hom]at hom';cases hom'
     rw[hLt]at hLi;cases hLi
     obtain⟨m,hop⟩:=fe.op
     have hset: ∀j,(listed.setIfInBounds i true).getD j false=(listed.getD j false||j==i):=by
      intro j
      by_cases e:i=j
      ·subst e
       simp[Array.getD_eq_getD_getElem?,hsz,hil]
      ·rw[getD_set_ne false e]
       simp[show(j==i)=false by simp;exact fun h=>e h.symm]
     have hl': ∀j,j<ops.size→((listed.setIfInBounds i true).getD j false=true↔j<i+1):=by
      intro j hj
      rw[hset,Bool.or_eq_true,hl j hj,beq_iff_eq]
      omega
     have hdst: ∀d,om.dst=some d→d<a.tmps.size:=fun d hd=>by rw[hN];exact fe.lt d hd
     rw[List.drop_eq_getElem_cons htl]at hr
     unfold wpOpIn
     rw[hom]
     dsimp only
     have runs: ∀ {v:V} {s1:Stk},op1 T X L[i] e s=some (v,s1)→runOps T X (L.drop (i+1)) (setDst L[i].dst v e) s1=some (e',s')→om.wpIn F n P a w (wpAnyIn F n P .any ops Q fuel (listed.setIfInBounds i true)) Q:=by
      intro v s1 hv hrest
      refine op1_sound hst hyl hF hS hE hs (ao:=L[i]) hop hv (fun u w1 γ1 k1 k2 k3 k4=> ?_)
      have hs1:s1≠[]:=fun e0=>by rw[e0]at k4;exact hs (List.eq_nil_of_length_eq_zero k4.symm)
      refine ih (i+1) fuel _ (by omega) (by omega) (by simpa using hsz) hl' (by omega) hrest hs1 (by rw[put_size];exact hN) ?_ k2 (fun a' w' γ' q1 q2 q3 q4 q5 q6=> ?_)
      ·rw[k4]at k1⊢
       rw[fe.dst]
       exact(hE.ext k3).put k1 hdst
      ·rw[k4]at q4 q5
       exact hQ a' w' γ' q1 q2 q3 (k3.trans q4) q5 (by rw[q6,put_defers])
     have skips:runOps T X (L.drop (i+1)) (setDst L[i].dst .skip e) s=some (e',s')→wpAnyIn F n P .any ops Q fuel (listed.setIfInBounds i true) (a.put om.dst undef) w:=by
      intro hrest
      refine ih (i+1) fuel _ (by omega) (by omega) (by simpa using hsz) hl' (by omega) hrest hs (by rw[put_size];exact hN) ?_ hS (fun a' w' γ' q1 q2 q3 q4 q5 q6=>hQ a' w' γ' q1 q2 q3 q4 q5 (by rw[q6,put_defers]))
      rw[fe.dst]
      exact hE.put .skip hdst
     simp only[runOps]at hr
     rcases fe.guard with ⟨hg1,hg2⟩|⟨g,want,slot,hg1,hg2,hg3⟩
     ·rw[hg2]at hr
      dsimp only at hr
      have hw:Region.wanted om (yielded ops a.tmps)=true:=by simp[Region.wanted,hg1]
      rw[if_pos hw]
      split at hr
      ·rename_i v s1 hv
       exact runs hv hr
      ·cases hr
     ·rw[hg3]at hr
      dsimp only at hr
      split at hr
      ·rename_i b hb
       have hy:=yielded_of hg2 hE hb
       split at hr
       ·rename_i hbw
        have hw:Region.wanted om (yielded ops a.tmps)=true:=by simp[Region.wanted,hg1,hy,hbw]
        rw[if_pos hw]
        split at hr
        ·rename_i v s1 hv
         exact runs hv hr
        ·cases hr
       ·rename_i hbw
        have hw:Region.wanted om (yielded ops a.tmps)=false:=by simp[Region.wanted,hg1,hy,hbw]
        rw[if_neg (by simp[hw])]
        exact⟨fun f _=>hF.fn f,skips hr⟩
      ·rename_i hb
       have hy:=yielded_skip hg2 hE hb
       have hw:Region.wanted om (yielded ops a.tmps)=false:=by simp[Region.wanted,hg1,hy]
       rw[if_neg (by simp[hw])]
       exact⟨fun f _=>hF.fn f,skips hr⟩
      ·cases hr
theorem readyFrom_mem {done:List Nat}: ∀(l:List AOper) (k i:Nat),i∈readyFrom k l done↔ ∃o,l[i-k]? =some o∧k≤i∧i∉done∧ ∀p∈o.pre,p∈done
 |[],k,i=>by simp[readyFrom]
 |o::r,k,i=>by
   have ih:=readyFrom_mem (done:=done) r (k+1) i
   have hcons: ∀o',(o::r)[i-k]? =some o'∧k≤i↔(i=k∧o'=o)∨(r[i-(k+1)]? =some o'∧k+1≤i):=by
    intro o'
    constructor
    ·rintro⟨h1,h2⟩
     by_cases e:i=k
     ·subst e;simp at h1;exact .inl ⟨rfl,h1.symm⟩
     ·have:i-k=(i-(k+1))+1:=by omega
      rw[this,List.getElem?_cons_succ]at h1
      exact .inr ⟨h1,by omega⟩
    ·rintro(⟨rfl,rfl⟩|⟨h1,h2⟩)
     ·simp
     ·have:i-k=(i-(k+1))+1:=by omega
      rw[this,List.getElem?_cons_succ]
      exact⟨h1,by omega⟩
   have hex:(∃o',(o::r)[i-k]? =some o'∧k≤i∧i∉done∧ ∀p∈o'.pre,p∈done)↔(i=k∧i∉done∧ ∀p∈o.pre,p∈done)∨ ∃o',r[i-(k+1)]? =some o'∧k+1≤i∧i∉done∧ ∀p∈o'.pre,p∈done:=by
    constructor
    ·rintro⟨o',h1,h2,h3⟩
     rcases (hcons o').1 ⟨h1,h2⟩with ⟨h4,rfl⟩|⟨h4,h5⟩
     ·exact .inl ⟨h4,h3⟩
     ·exact .inr ⟨o',h4,h5,h3⟩
    ·rintro(⟨h1,h2⟩|⟨o',h1,h2,h3⟩)
     ·obtain⟨h4,h5⟩:=(hcons o).2 (.inl ⟨h1,rfl⟩)
      exact⟨o,h4,h5,h2⟩
     ·obtain⟨h4,h5⟩:=(hcons o').2 (.inr ⟨h1,h2⟩)
      exact⟨o',h4,h5,h3⟩
   rw[hex,←ih,show readyFrom k (o::r) done=if done.contains k|| !(o.pre.all fun p=>done.contains p)then readyFrom (k+1) r done else k::readyFrom (k+1) r done from rfl]
   by_cases h:done.contains k|| !(o.pre.all fun p=>done.contains p)
   ·rw[if_pos h]
    constructor
    ·exact .inr
    ·rintro(⟨rfl,h2,h3⟩|h2)
     ·exfalso
      simp only[Bool.or_eq_true,List.contains_iff_mem,Bool.not_eq_true',List.all_eq_false]at h
      rcases h with h|⟨x,hx,hx2⟩
      ·exact h2 h
      ·exact hx2 (by simpa using h3 x hx)
     ·exact h2
   ·rw[if_neg h,List.mem_cons]
    simp only[Bool.or_eq_true,List.contains_iff_mem,Bool.not_eq_true',List.all_eq_false,not_or,not_exists,not_and,Classical.not_not]at h
    constructor
    ·rintro(rfl|h2)
     ·exact .inl ⟨rfl,h.1,fun p hp=>by simpa using h.2 p hp⟩
     ·exact .inr h2
    ·rintro(⟨rfl,_⟩|h2)
     ·exact .inl rfl
     ·exact .inr h2
theorem draw_each(hst:StatOk (KP P) P T X)(hyl:YldOk (KP P) P T X) {F:Fence}(hF:Wide F) {n:Nat}(hops:ops.size=L.length)
 (fellow: ∀(j:Nat) o,L[j]? =some o→ ∃om,ops[j]? =some om∧Fellow P N ops L j om o) {live:List Nat}
 {Q:Exit→Act→World→Prop} {e':Env} {s':Stk}: ∀(f:List AOper) (done:List Nat) (fuel:Nat) (listed:Array Bool) {e:Env} {s:Stk} {a:Act} {w:World} {γ:G},listed.size=ops.size→
  (∀j,j<ops.size→(listed.getD j false=true↔j∈done))→((List.range ops.size).filter fun j=> !listed.getD j true).length≤fuel→
  (∀(j:Nat) o,L[j]? =some o→listed.getD j false=true→ ∀i,i∈o.pre→listed.getD i false=true)→
  runAny T X L live f done e s=some (e',s')→s≠[]→a.tmps.size=N→ER s.length w γ e a→SR (KP P) s w γ→
  (∀a' w' γ',a'.tmps.size=N→ER s'.length w' γ' e' a'→SR (KP P) s' w' γ'→Ext s.length w γ w' γ'→s'.length=s.length→a'.defers=a.defers→Q .normal a' w')→wpAnyIn F n P .any ops Q fuel listed a w:=by
 intro f
 have fin: ∀(done:List Nat) (fuel:Nat) (listed:Array Bool) {e:Env} {s:Stk} {a:Act} {w:World} {γ:G},listed.size=ops.size→(∀j,j<ops.size→(listed.getD j false=true↔j∈done))→
  (∀(j:Nat) o,L[j]? =some o→listed.getD j false=true→ ∀i,i∈o.pre→listed.getD i false=true)→readyFrom 0 L done=[]→some (e.only live,s)=some (e',s')→a.tmps.size=N→ER s.length w γ e a→SR (KP P) s w γ→
  (∀a' w' γ',a'.tmps.size=N→ER s'.length w' γ' e' a'→SR (KP P) s' w' γ'→Ext s.length w γ w' γ'→s'.length=s.length→a'.defers=a.defers→Q .normal a' w')→wpAnyIn F n P .any ops Q fuel listed a w:=by
  intro done fuel listed e s a w γ hsz hl hcl h0 hr hN hE hS hQ
  simp only[Option.some.injEq,Prod.mk.injEq]at hr
  obtain⟨rfl,rfl⟩:=hr
  have hq:=hQ a w γ hN (hE.only live) hS (Ext.refl _ _ _) rfl rfl
  have hnil:Region.ready .any ops listed=[]:=by
   cases hrd:Region.ready .any ops listed with
   |nil=>rfl
   |cons i l=>
     exfalso
     have hi:i∈Region.ready .any ops listed:=by rw[hrd];simp
     obtain⟨o,om,hLi,hom,fe,h1,hpre⟩:=ready_pre hops fellow hcl hi
     have hlt:i<ops.size:=(Array.getElem?_eq_some_iff.1 hom).1
     have:i∈readyFrom 0 L done:=(readyFrom_mem L 0 i).2 ⟨o,by simpa using hLi,Nat.zero_le _,(fun hd=>by
      rw[getD_iff _ _ (by omega)]at h1
      rw[(hl i hlt).2 hd]at h1;cases h1),fun p hp=>(hl p (by have:=(fe.pre2 p hp).1;omega)).1 (hpre p hp)⟩
     rw[h0]at this;cases this
  cases fuel with
  |zero=>exact⟨hnil,hq⟩
  |succ fuel=>exact⟨fun _=>hq,fun i hi=>by rw[hnil]at hi;cases hi⟩
 induction f with
 |nil=>
   intro done fuel listed e s a w γ hsz hl hcount hcl hr hs hN hE hS hQ
   simp only[runAny]at hr
   split at hr
   ·rename_i h0;exact fin done fuel listed hsz hl hcl h0 hr hN hE hS hQ
   ·cases hr
 |cons x f ih=>
   intro done fuel listed e s a w γ hsz hl hcount hcl hr hs hN hE hS hQ
   simp only[runAny]at hr
   split at hr
   ·rename_i h0;exact fin done fuel listed hsz hl hcl h0 hr hN hE hS hQ
   rename_i h0
   have hall:=agree_all hr
   obtain⟨i0,hi0⟩:=List.exists_mem_of_ne_nil _ h0
   obtain⟨o0,ho0,_,hnd0,_⟩:=(readyFrom_mem L 0 i0).1 hi0
   have hlt0:i0<ops.size:=by rw[hops];exact(List.getElem?_eq_some_iff.1 (by simpa using ho0)).1
   have hf0:listed.getD i0 false=false:=by
    cases h:listed.getD i0 false with
    |false=>rfl
    |true=>exact absurd ((hl i0 hlt0).1 h) hnd0
   have hfirst: ∃j1,j1<ops.size∧listed.getD j1 false=false∧ ∀k,k<j1→listed.getD k false=true:=by
    have: ∀m j,j≤m→j<ops.size→listed.getD j false=false→ ∃j1,j1<ops.size∧listed.getD j1 false=false∧ ∀k,k<j1→listed.getD k false=true:=by
     intro m
     induction m with
     |zero=>intro j hj h1 h2;exact⟨j,h1,h2,fun k hk=>by omega⟩
     |succ m ihm=>
       intro j hj h1 h2
       by_cases hx: ∀k,k<j→listed.getD k false=true
       ·exact⟨j,h1,h2,hx⟩
       ·simp only[Classical.not_forall]at hx
        obtain⟨k,hk,hk2⟩:=hx
        exact ihm k (by omega) (by omega) (by simpa using hk2)
    exact this i0 i0 (Nat.le_refl _) hlt0 hf0
   obtain⟨j1,hj1,hf1,hb1⟩:=hfirst
   have hready:j1∈Region.ready .any ops listed:=by
    have hLj:L[j1]? =some L[j1]:=by simp[show j1<L.length by omega]
    obtain⟨om,hom,fe⟩:=fellow j1 _ hLj
    exact ready_of hom fe (by rw[getD_iff _ _ (by omega)];exact hf1) hb1
   cases fuel with
   |zero=>
     exfalso
     have:i0∈(List.range ops.size).filter fun j=> !listed.getD j true:=List.mem_filter.2 ⟨List.mem_range.2 hlt0,by rw[getD_iff _ _ (by omega),hf0];rfl⟩
     have:=List.length_pos_of_mem this
     omega
   |succ fuel=>
     refine⟨fun h=>(by rw[h]at hready;cases hready),fun i hi'=> ?_⟩
     obtain⟨o,om,hLi,hom,fe,h1,hpre⟩:=ready_pre hops fellow hcl hi'
     have hil:i<ops.size:=(Array.getElem?_eq_some_iff.1 hom).1
     have hin:i∈readyFrom 0 L done:=(readyFrom_mem L 0 i).2 ⟨o,by simpa using hLi,Nat.zero_le _,(fun hd=>by
      rw[getD_iff _ _ (by omega)]at h1
      rw[(hl i hil).2 hd]at h1;cases h1),fun p hp=>(hl p (by have:=(fe.pre2 p hp).1;omega)).1 (hpre p hp)⟩
     have hgo:=hall _ (List.mem_map.2 ⟨i,hin,rfl⟩)
     rw[hLi]at hgo
     dsimp only at hgo
     split at hgo
     rotate_left
     ·cases hgo
     rename_i e1 s1 hone
     obtain⟨m,hop⟩:=fe.op
     have hset: ∀j,(listed.setIfInBounds i true).getD j false=(listed.getD j false||j==i):=by
      intro j
      by_cases e:i=j
      ·subst e
       simp[Array.getD_eq_getD_getElem?,hsz,hil]
      ·rw[getD_set_ne false e]
       simp[show(j==i)=false by simp;exact fun h=>e h.symm]
     have hl': ∀j,j<ops.size→((listed.setIfInBounds i true).getD j false=true↔j∈i::done):=by
      intro j hj
      rw[hset,Bool.or_eq_true,hl j hj,beq_iff_eq,List.mem_cons]
      exact or_comm
     have hcount':((List.range ops.size).filter fun j=> !(listed.setIfInBounds i true).getD j true).length≤fuel:=by
      have:((List.range ops.size).filter fun j=> !(listed.setIfInBounds i true).getD j true).length<((List.range ops.size).filter fun j=> !listed.getD j true).length:=by
       refine filter_lt _ (fun x _ hx=> ?_) (List.mem_range.2 hil) (by rw[h1];rfl) ?_
       ·by_cases e:i=x
        ·subst e
         have:(listed.setIfInBounds i true).getD i true=true:=by rw[getD_iff _ _ (by simpa [hsz]using hil),hset];simp
         rw[this]at hx;cases hx
        ·rwa [getD_set_ne true e]at hx
       ·have:(listed.setIfInBounds i true).getD i true=true:=by rw[getD_iff _ _ (by simpa [hsz]using hil),hset];simp
        rw[this];rfl
      omega
     have hcl': ∀(j:Nat) o,L[j]? =some o→(listed.setIfInBounds i true).getD j false=true→ ∀p,p∈o.pre→(listed.setIfInBounds i true).getD p false=true:=by
      intro j o' ho hD p hp
      rw[hset]at hD⊢
      simp only[Bool.or_eq_true,beq_iff_eq]at hD⊢
      rcases hD with hD|rfl
      ·exact .inl (hcl j o' ho hD p hp)
      ·rw[hLi]at ho;cases ho
       exact .inl (hpre p hp)
     have hdst: ∀d,om.dst=some d→d<a.tmps.size:=fun d hd=>by rw[hN];exact fe.lt d hd
     unfold wpOpIn
     rw[hom]
     dsimp only
     have runs: ∀ {v:V} {s2:Stk},op1 T X o e s=some (v,s2)→setDst o.dst v e=e1→s2=s1→om.wpIn F n P a w (wpAnyIn F n P .any ops Q fuel (listed.setIfInBounds i true)) Q:=by
      rintro v s2 hv rfl rfl
      refine op1_sound hst hyl hF hS hE hs (ao:=o) hop hv (fun u w1 γ1 k1 k2 k3 k4=> ?_)
      have hs1:s2≠[]:=fun e0=>by rw[e0]at k4;exact hs (List.eq_nil_of_length_eq_zero k4.symm)
      refine ih (i::done) fuel _ (by simpa using hsz) hl' hcount' hcl' hgo hs1 (by rw[put_size];exact hN) ?_ k2 (fun a' w' γ' q1 q2 q3 q4 q5 q6=> ?_)
      ·rw[k4]at k1⊢
       rw[fe.dst]
       exact(hE.ext k3).put k1 hdst
      ·rw[k4]at q4 q5
       exact hQ a' w' γ' q1 q2 q3 (k3.trans q4) q5 (by rw[q6,put_defers])
     have skips:setDst o.dst .skip e=e1→s=s1→wpAnyIn F n P .any ops Q fuel (listed.setIfInBounds i true) (a.put om.dst undef) w:=by
      rintro rfl rfl
      refine ih (i::done) fuel _ (by simpa using hsz) hl' hcount' hcl' hgo hs (by rw[put_size];exact hN) ?_ hS (fun a' w' γ' q1 q2 q3 q4 q5 q6=>hQ a' w' γ' q1 q2 q3 q4 q5 (by rw[q6,put_defers]))
      rw[fe.dst]
      exact hE.put .skip hdst
     simp only[runOps]at hone
     rcases fe.guard with ⟨hg1,hg2⟩|⟨g,want,slot,hg1,hg2,hg3⟩
     ·rw[hg2]at hone
      dsimp only at hone
      have hw:Region.wanted om (yielded ops a.tmps)=true:=by simp[Region.wanted,hg1]
      rw[if_pos hw]
      split at hone
      ·rename_i v s2 hv
       simp only[Option.some.injEq,Prod.mk.injEq]at hone
       exact runs hv hone.1 hone.2
      ·cases hone
     ·rw[hg3]at hone
      dsimp only at hone
      split at hone
      ·rename_i b hb
       have hy:=yielded_of hg2 hE hb
       split at hone
       ·rename_i hbw
        have hw:Region.wanted om (yielded ops a.tmps)=true:=by simp[Region.wanted,hg1,hy,hbw]
        rw[if_pos hw]
        split at hone
        ·rename_i v s2 hv
         simp only[Option.some.injEq,Prod.mk.injEq]at hone
         exact runs hv hone.1 hone.2
        ·cases hone
       ·rename_i hbw
        have hw:Region.wanted om (yielded ops a.tmps)=false:=by simp[Region.wanted,hg1,hy,hbw]
        rw[if_neg (by simp[hw])]
        simp only[Option.some.injEq,Prod.mk.injEq]at hone
        exact⟨fun f _=>hF.fn f,skips hone.1 hone.2⟩
      ·rename_i hb
       have hy:=yielded_skip hg2 hE hb
       have hw:Region.wanted om (yielded ops a.tmps)=false:=by simp[Region.wanted,hg1,hy]
       rw[if_neg (by simp[hw])]
       simp only[Option.some.injEq,Prod.mk.injEq]at hone
       exact⟨fun f _=>hF.fn f,skips hone.1 hone.2⟩
      ·cases hone
theorem draw_any(hst:StatOk (KP P) P T X)(hyl:YldOk (KP P) P T X) {F:Fence}(hF:Wide F) {n:Nat} {A:List AOper}(hlen:rs.length=A.length)(hops:ops.size=L.length)(hA: ∀j,j<A.length→L[j]? =A[j]?)(hAL:A.length≤L.length)
 (shown: ∀(j:Nat) o,A[j]? =some o→ ∃r,rs[j]? =some r∧Shown T X loc0 rest e0 A rs j o r) (fellow: ∀(j:Nat) o,L[j]? =some o→ ∃om,ops[j]? =some om∧Fellow P N ops L j om o)
 (htail: ∀(j:Nat) o,L[j]? =some o→A.length≤j→ ∀k,k<j→k∈o.pre)
 {ds:List Deferred} {wI:World} {γI:G} {Q:Exit→Act→World→Prop} {e':Env} {s':Stk} (hrun:runOps T X (L.drop A.length) (eAt (fun _=>true) 0 rs e0) (lAt (fun _=>true) 0 rs loc0::rest)=some (e',s'))
 (hQ: ∀a w γ,a.tmps.size=N→ER s'.length w γ e' a→SR (KP P) s' w γ→Ext (rest.length+1) wI γI w γ→s'.length=rest.length+1→a.defers=ds→Q .normal a w):
 ∀(fuel:Nat) (listed:Array Bool) {a:Act} {w:World} {γ:G},listed.size=ops.size→((List.range ops.size).filter fun j=> !listed.getD j true).length≤fuel→(∀j,A.length≤j→j<ops.size→listed.getD j false=false)→
  (∀(j:Nat) o,L[j]? =some o→listed.getD j false=true→ ∀i,i∈o.pre→listed.getD i false=true)→DInv P N rs loc0 rest e0 ds wI γI (fun j=>listed.getD j false) a w γ→
  wpAnyIn F n P .any ops Q fuel listed a w:=by
 have tail: ∀(fuel:Nat) (listed:Array Bool) {a:Act} {w:World} {γ:G},listed.size=ops.size→((List.range ops.size).filter fun j=> !listed.getD j true).length≤fuel→(∀j,A.length≤j→j<ops.size→listed.getD j false=false)→
  DInv P N rs loc0 rest e0 ds wI γI (fun j=>listed.getD j false) a w γ→(∀j,j<A.length→listed.getD j false=true)→wpAnyIn F n P .any ops Q fuel listed a w:=by
  intro fuel listed a w γ hsz hcount htl inv hall
  have hE:=inv.env
  rw[eAt_congr (D':=fun _=>true) rs 0 e0 (fun k hk=>by rw[Nat.zero_add];exact hall k (by omega))]at hE
  have hS:=inv.stk
  rw[lAt_congr (D':=fun _=>true) rs 0 loc0 (fun k hk=>by rw[Nat.zero_add];exact hall k (by omega))]at hS
  refine draw_tail hst hyl hF hops fellow (i0:=A.length) htail (ops.size-A.length) A.length fuel listed (by omega) (Nat.le_refl _) hsz (fun j hj=> ?_) ?_ hrun (by simp) inv.size hE hS (fun a' w' γ' q1 q2 q3 q4 q5 q6=> ?_)
  ·by_cases h:j<A.length
   ·simp[h,hall j h]
   ·simp[h,htl j (by omega) hj]
  ·refine Nat.le_trans ?_ hcount
   have:((List.range ops.size).filter fun j=> !listed.getD j true).length=ops.size-A.length:=by
    have h1:((List.range ops.size).filter fun j=> !listed.getD j true)=(List.range ops.size).filter fun j=>decide (A.length≤j):=by
     refine List.filter_congr fun j hj=> ?_
     have hj':=List.mem_range.1 hj
     rw[getD_iff _ _ (by omega)]
     by_cases h:j<A.length
     ·simp[hall j h,h]
     ·simp[htl j (by omega) hj',Nat.le_of_not_lt h]
    rw[h1]
    have: ∀(a b:Nat),a≤b→((List.range b).filter fun j=>decide (a≤j)).length=b-a:=by
     intro a b hab
     induction b with
     |zero=>simp
     |succ b ih=>
       rw[List.range_succ,List.filter_append,List.length_append]
       by_cases h:a≤b
       ·rw[ih h];simp[h];omega
       ·have hb:a=b+1:=by omega
        subst hb
        have:(List.range b).filter (fun j=>decide (b+1≤j))=[]:=by
         rw[List.filter_eq_nil_iff];intro x hx;have:=List.mem_range.1 hx;simp;omega
        rw[this];simp
    exact this _ _ (by omega)
   omega
  ·exact hQ a' w' γ' q1 q2 q3 (inv.ext.trans (by simpa using q4)) (by simpa using q5) (by rw[q6,inv.defers])
 intro fuel
 induction fuel with
 |zero=>
   intro listed a w γ hsz hcount htl hcl inv
   refine tail 0 listed hsz hcount htl inv fun j hj=> ?_
   cases h:listed.getD j false with
   |true=>rfl
   |false=>
     exfalso
     have:j∈(List.range ops.size).filter fun j=> !listed.getD j true:=List.mem_filter.2 ⟨List.mem_range.2 (by omega),by rw[getD_iff _ _ (by omega),h];rfl⟩
     have:=List.length_pos_of_mem this
     omega
 |succ fuel ih=>
   intro listed a w γ hsz hcount htl hcl inv
   by_cases hall: ∀j,j<A.length→listed.getD j false=true
   ·exact tail (fuel+1) listed hsz hcount htl inv hall
   ·simp only[Classical.not_forall]at hall
    obtain⟨j0,hj0,hf0⟩:=hall
    have hfirst: ∃j1,j1<A.length∧listed.getD j1 false=false∧ ∀k,k<j1→listed.getD k false=true:=by
     have: ∀m j,j≤m→j<A.length→listed.getD j false=false→ ∃j1,j1<A.length∧listed.getD j1 false=false∧ ∀k,k<j1→listed.getD k false=true:=by
      intro m
      induction m with
      |zero=>intro j hj h1 h2;exact⟨j,h1,h2,fun k hk=>by omega⟩
      |succ m ihm=>
        intro j hj h1 h2
        by_cases hx: ∀k,k<j→listed.getD k false=true
        ·exact⟨j,h1,h2,hx⟩
        ·simp only[Classical.not_forall]at hx
         obtain⟨k,hk,hk2⟩:=hx
         exact ihm k (by omega) (by omega) (by simpa using hk2)
     exact this j0 j0 (Nat.le_refl _) hj0 (by simpa using hf0)
    obtain⟨j1,hj1,hf1,hb1⟩:=hfirst
    have hready:j1∈Region.ready .any ops listed:=by
     have hLj:L[j1]? =some L[j1]:=by simp[show j1<L.length by omega]
     obtain⟨om,hom,fe⟩:=fellow j1 _ hLj
     exact ready_of hom fe (by rw[getD_iff _ _ (by omega)];exact hf1) hb1
    refine⟨fun hr=>(by rw[hr]at hready;cases hready),fun i hi=> ?_⟩
    obtain⟨o,om,hLi,hom,fe,h1,hpre⟩:=ready_pre hops fellow hcl hi
    have hlt:i<ops.size:=(Array.getElem?_eq_some_iff.1 hom).1
    have hDi:listed.getD i false=false:=by rw[←getD_iff _ _ (by omega)];exact h1
    have hiA:i<A.length:=by
     cases Nat.lt_or_ge i A.length with
     |inl h=>exact h
     |inr h=>
       exfalso
       have:=hpre j1 (htail i o hLi h j1 (by omega))
       rw[hf1]at this;cases this
    have hAi:A[i]? =some o:=by rw[←hA i hiA];exact hLi
    obtain⟨m,hop⟩:=fe.op
    refine draw_step hst hyl hF hlen shown inv hom hAi hop fe.dst fe.lt fe.guard hDi hpre (fun j oj hj hDj hin=> ?_) (fun a' w' γ' inv'=> ?_)
    ·have hjA:j<A.length:=(List.getElem?_eq_some_iff.1 hj).1
     have:=hcl j oj (by rw[hA j hjA];exact hj) hDj i hin
     rw[hDi]at this;cases this
    ·have hset: ∀j,(listed.setIfInBounds i true).getD j false=(listed.getD j false||j==i):=by
      intro j
      by_cases e:i=j
      ·subst e
       simp[Array.getD_eq_getD_getElem?,hsz,hlt]
      ·rw[getD_set_ne false e]
       simp[show(j==i)=false by simp;exact fun h=>e h.symm]
     refine ih (listed.setIfInBounds i true) (γ:=γ') (by simpa using hsz) ?_ (fun j h2 h3=> ?_) (fun j o' ho hD p hp=> ?_) ?_
     ·have:((List.range ops.size).filter fun j=> !(listed.setIfInBounds i true).getD j true).length<((List.range ops.size).filter fun j=> !listed.getD j true).length:=by
       refine filter_lt _ (fun x _ hx=> ?_) (List.mem_range.2 hlt) (by rw[h1];rfl) ?_
       ·by_cases e:i=x
        ·subst e
         have:(listed.setIfInBounds i true).getD i true=true:=by rw[getD_iff _ _ (by simpa [hsz]using hlt),hset];simp
         rw[this]at hx;cases hx
        ·rwa [getD_set_ne true e]at hx
       ·have:(listed.setIfInBounds i true).getD i true=true:=by rw[getD_iff _ _ (by simpa [hsz]using hlt),hset];simp
        rw[this];rfl
      omega
     ·rw[hset,htl j h2 h3]
      simp;omega
     ·rw[hset]at hD⊢
      simp only[Bool.or_eq_true,beq_iff_eq]at hD⊢
      rcases hD with hD|rfl
      ·exact .inl (hcl j o' ho hD p hp)
      ·rw[hLi]at ho;cases ho
       exact .inl (hpre p hp)
     ·have hfun:(fun j=>(listed.setIfInBounds i true).getD j false)=fun j=>listed.getD j false||j==i:=funext hset
      rw[hfun];exact inv'
theorem draw_ok(hm:P.follows .mixedOrders=true)(hst:StatOk (KP P) P T X)(hyl:YldOk (KP P) P T X):DrawOk P T X:=by
 intro N id ops muts al als live hals hpr e s ex e' s' h F hF n w0 w γ a hp
 cases s with
 |nil=>exact absurd rfl hp.ne
 |cons loc0 rest=>
   obtain⟨cl,cg⟩:=compOpers_get hals
   obtain⟨dl,dg⟩:=drawn_get (al:=al) (als:=als) (ps:=Ab.pres ops.toList []) als.zipIdx
   have hL:(drawn al als (Ab.pres ops.toList []) als.zipIdx).length=ops.size:=by rw[dl];simp[cl]
   have pre_of: ∀(j:Nat),j<ops.size→ ∃o ao,(drawn al als (Ab.pres ops.toList []) als.zipIdx)[j]? =some o∧als[j]? =some ao∧o.dst=ao.dst∧o.op=ao.op∧o.guard=ao.guard∧o.pre=(Ab.pres ops.toList []).getD j []:=by
    intro j hj
    have hja:j<als.length:=by rw[cl];simpa using hj
    have hz:als.zipIdx[j]? =some (als[j],j):=by rw[List.getElem?_zipIdx];simp[hja]
    obtain⟨o,h1,h2,h3,h4,h5⟩:=dg j _ hz
    exact⟨o,als[j],h1,by simp[hja],h2,h3,h4,h5⟩
   have fellow: ∀(j:Nat) o,(drawn al als (Ab.pres ops.toList []) als.zipIdx)[j]? =some o→ ∃om,ops[j]? =some om∧Fellow P N ops (drawn al als (Ab.pres ops.toList []) als.zipIdx) j om o:=by
    intro j o ho
    have hj:j<ops.size:=by rw[←hL];exact(List.getElem?_eq_some_iff.1 ho).1
    obtain⟨o',ao,h1,h2,h3,h4,h5,h6⟩:=pre_of j hj
    rw[ho]at h1;cases h1
    have hz:ops.toList.zipIdx[j]? =some (ops[j],j):=by rw[List.getElem?_zipIdx];simp[hj]
    obtain⟨ao',m,c1,c2,c3,c4,c5⟩:=cg j _ hz
    rw[h2]at c1;cases c1
    have hpk:=presOk_get hpr j ops[j] (by simp[hj])
    simp only[Nat.zero_add]at hpk
    refine⟨ops[j],by simp[hj],⟨⟨m,by rw[h4];exact c3⟩,h3.trans c2,c4,by rw[h5];exact c5,fun i hi=>by rw[h6];exact hpk.1 i hi,fun i hi=> ?_⟩⟩
    rw[h6]at hi
    obtain⟨q1,q2⟩:=hpk.2 i hi
    refine⟨q1,?_⟩
    rcases q2 with q2|⟨q,q3,q4⟩
    ·exact .inl q2
    ·have hq:=(hpk.1 q q3).1
     obtain⟨oq,_,k1,_,_,_,_,k6⟩:=pre_of q (by omega)
     exact .inr ⟨q,oq,q3,k1,by rw[k6];exact q4⟩
   have hempty: ∀j,(Array.replicate ops.size false).getD j false=false:=fun j=>by
    simp only[Array.getD_eq_getD_getElem?,Array.getElem?_replicate]
    split<;>rfl
   simp only[stepDrawn]at h
   split at h
   ·split at h
    rotate_left
    ·cases h
    rename_i e1 s1 hrun
    simp only[Option.some.injEq,Prod.mk.injEq]at h
    obtain⟨rfl,rfl,rfl⟩:=h
    have hx:Ext (rest.length+1) w γ {w with drawn:=w.drawn+1} γ:=Ext.drew _ w γ
    refine wpIn_region_any hm (draw_each hst hyl hF (N:=N) (L:=drawn al als (Ab.pres ops.toList []) als.zipIdx) hL.symm fellow (live:=live) _ [] ops.size _ (by simp) (fun j _=> ?_) ?_ (fun j o _ hD=> ?_) hrun (by simp) hp.size ((hp.env.ext hx)) hp.stk.drew (fun a' w' γ' q1 q2 q3 q4 q5 q6=> ?_))
    ·rw[hempty];simp
    ·exact Nat.le_trans (List.length_filter_le _ _) (by simp)
    ·exfalso
     rw[hempty]at hD;cases hD
    ·have hdep:dep (loc0::rest)=rest.length:=by simp[dep]
     have q4':=hx.trans q4
     exact⟨rfl,γ',q1,q2,q3,by rw[hdep];exact q4'.mono (by omega),by simpa using q5,by rw[q6];exact hp.marks.ext q4'⟩
   split at h
   ·rename_i rs hrs
    split at h
    rotate_left
    ·cases h
    rename_i e1 s1 hrun
    simp only[Option.some.injEq,Prod.mk.injEq]at h
    obtain⟨rfl,rfl,rfl⟩:=h
    have happ:=cut_append (drawn al als (Ab.pres ops.toList []) als.zipIdx) 0
    have hord:=cut_ordered (drawn al als (Ab.pres ops.toList []) als.zipIdx) 0
    rw[Nat.zero_add]at hord
    generalize hA:(cut 0 (drawn al als (Ab.pres ops.toList []) als.zipIdx)).1=A at*
    generalize hB:(cut 0 (drawn al als (Ab.pres ops.toList []) als.zipIdx)).2=B at*
    obtain⟨_,hlen,hsh⟩:=runDrawn_shown A _ 0 [] rs hrs rfl (by simp)
    have shown: ∀(j:Nat) o,A[j]? =some o→ ∃r,rs[j]? =some r∧Shown T X loc0 rest e A rs j o r:=fun j o ho=>by
     have:=hsh j o ho
     rwa [Nat.zero_add]at this
    have hr: ∀k,k<rs.length→(List.range rs.length).contains (0+k)=true:=fun k hk=>by simp[hk]
    rw[dEnv_all rs 0 e hr,dLoc_all rs 0 loc0 hr]at hrun
    have hdrop:(drawn al als (Ab.pres ops.toList []) als.zipIdx).drop A.length=B:=by rw[←happ];simp
    refine wpIn_region_any hm (draw_any hst hyl hF (N:=N) (L:=drawn al als (Ab.pres ops.toList []) als.zipIdx) (A:=A) (rs:=rs) (loc0:=loc0) (rest:=rest) (e0:=e) (by rw[hlen];simp) hL.symm (fun j hj=> ?_) ?_ shown fellow (fun j o ho hj k hk=> ?_) (ds:=a.defers) (wI:=w) (γI:=γ) (by rw[hdrop];exact hrun) ?_ ops.size _ (by simp) ?_ ?_ ?_ (γ:=γ) ?_)
    ·rw[←happ,List.getElem?_append_left hj]
    ·rw[←happ];simp
    ·rw[←happ,List.getElem?_append_right hj]at ho
     exact ordered_get B A.length hord (j-A.length) o ho k (by omega)
    ·intro a' w' γ' q1 q2 q3 q4 q5 q6
     have hdep:dep (loc0::rest)=rest.length:=by simp[dep]
     exact⟨rfl,γ',q1,q2.only live,q3,by rw[hdep];exact q4.mono (by omega),by simpa using q5,by rw[q6];exact hp.marks.ext q4⟩
    ·exact Nat.le_trans (List.length_filter_le _ _) (by simp)
    ·intro j _ _;exact hempty j
    ·intro j o _ hD
     exfalso
     rw[hempty]at hD;cases hD
    ·have hf:(fun j=>(Array.replicate ops.size false).getD j false)=fun _=>false:=funext hempty
     rw[hf]
     have e1: ∀(rs:List Did) (j:Nat) (e:Env),eAt (fun _=>false) j rs e=e:=by
      intro rs
      induction rs with
      |nil=>intros;rfl
      |cons r rs ih=>intro j e;exact ih _ _
     have e2: ∀(rs:List Did) (j:Nat) (loc:Loc),lAt (fun _=>false) j rs loc=loc:=by
      intro rs
      induction rs with
      |nil=>intros;rfl
      |cons r rs ih=>intro j e;exact ih _ _
     have hx:Ext (rest.length+1) w γ {w with drawn:=w.drawn+1} γ:=Ext.drew _ w γ
     exact⟨by rw[e1];exact hp.env.ext hx,by rw[e2];exact hp.stk.drew,hp.size,hx,rfl⟩
   ·cases h
theorem den_sound(hm:P.follows .mixedOrders=true)(tab:TabOk P T) {f:FuncId} {args:List V} {lab:Nat} {s:Stk} {v:V} {s':Stk}(h:den T f args lab s=some (v,s')):
 Enters P f∧ ∀w γ us,LR s.length w γ args us→SR (KP P) s w γ→Calls P f us.toArray w (CPost (KP P) s w γ v s'):=by
 obtain⟨n,hn⟩:=enter_cont h
 exact stat_of_code tab (code_ok tab (fun X h1 h2=>draw_ok hm h1 h2) n) f args lab s v s' hn
end
end Go.Ab

/-
  The evaluator's equations, for simp.
-/
namespace Go.Ab
section
variable {T : Tab}
theorem run_skip(e s):Run T .skip e s=some (.normal,e,s):=run_eq ..
theorem run_label(e s):Run T .label e s=some (.normal,e,s):=run_eq ..
theorem run_ret(e s):Run T .ret e s=some (.ret,e,s):=run_eq ..
theorem run_exit(id e s):Run T (.exit id) e s=some (.exit id,e,s):=run_eq ..
noncomputable def thenRun(T:Tab)(r:Res)(b:AC):Res:=match r with
 |some (.normal,e',s')=>Run T b e' s'
 |r=>r
theorem run_seq(a b e s):Run T (.seq a b) e s=thenRun T (Run T a e s) b:=by rw[run_eq];rfl
theorem thenRun_normal(e s b):thenRun T (some (.normal,e,s)) b=Run T b e s:=rfl
theorem thenRun_ret(e s b):thenRun T (some (.ret,e,s)) b=some (.ret,e,s):=rfl
theorem thenRun_exit(id e s b):thenRun T (some (.exit id,e,s)) b=some (.exit id,e,s):=rfl
open Classical in
noncomputable def bothRes(x y:Res):Res:=match x,y with
 |some r1,some r2=>if r1=r2 then some r1 else none
 |_,_=>none
open Classical in
theorem bothRes_same(r:Ex×Env×Stk):bothRes (some r) (some r)=some r:=by simp[bothRes]
noncomputable def condRes(v:V)(x y:Res):Res:=match v with
 | .bool true=>x
 | .bool false=>y
 | .anyb=>bothRes x y
 |_=>none
theorem run_cond(c a b e s):Run T (.cond c a b) e s=condRes (c.ev e) (Run T a e s) (Run T b e s):=by
 rw[run_eq];simp only[step]
 cases c.ev e with
 |bool x=>cases x<;>rfl
 |_=>rfl
theorem thenRun_ite(p:Prop) [Decidable p](x y k):thenRun T (if p then x else y) k=if p then thenRun T x k else thenRun T y k:=by split<;>rfl
theorem beq_int(a b:Int):(a==b)=decide (a=b):=by rw[Bool.eq_iff_iff];simp
def blockRes(id:Nat)(r:Res):Res:=match r with
 |some (.exit k,e',s')=>some (if k=id then .normal else .exit k,e',s')
 |r=>r
theorem blockRes_ite(id:Nat)(p:Prop) [Decidable p](x y):blockRes id (if p then x else y)=if p then blockRes id x else blockRes id y:=by split<;>rfl
theorem blockRes_normal(id e s):blockRes id (some (.normal,e,s))=some (.normal,e,s):=rfl
theorem blockRes_ret(id e s):blockRes id (some (.ret,e,s))=some (.ret,e,s):=rfl
theorem blockRes_exit(id k e s):blockRes id (some (.exit k,e,s))=some (if k=id then .normal else .exit k,e,s):=rfl
theorem run_block(id b e s):Run T (.block id b) e s=blockRes id (Run T b e s):=by rw[run_eq];rfl
theorem run_scope(b e s):Run T (.scope b) e s=Run T b e s:=by rw[run_eq];rfl
theorem run_loop(live keep b e s):Run T (.loop live keep b) e s=thenRun T (Run T b (gcEnv live keep e s) (gcStk keep s)) (.loop live keep b):=by
 rw[run_eq];rfl
theorem run_only(b e s):Run T (.only b) e s=onlyRet (Run T b e s):=by rw[run_eq];rfl
theorem w64(n:Int)(h: -9223372036854775808≤n∧n≤9223372036854775807):IntKind.i64.wrap n=n:=IntWalk.i64_in n h
theorem den_code {f:FuncId} {fn:AFn}(h:T.fns f=some (.code fn))(args lab s):den T f args lab s=if args.length=fn.np then
 match Run T fn.body (argEnv 0 args) ([]::s)with
 |some (ex,e',s1)=>
   match ex with
   | .exit _=>none
   |_=>match s1 with
     |[]=>none
     |loc::s'=>match results e' s1 fn.res with
       |none=>none
       |some vs=>adopt fn.own loc (pack vs) lab s'
 |none=>none
 else none:=by unfold den enter;rw[h];rfl
end
end Go.Ab

/-
  Arguments: what reads as data reads as a value of the evaluator's.
-/
namespace Go.Ab
section
variable {H : Type} {enc : TypeId × Value → H} {P : Program} {w : World}
def rdAll(g:DataW H→Option (List V)):List (DataW H)→Option (List (List V))
 |[]=>some []
 |d::r=>match g d,rdAll g r with
   |some a,some b=>some (a::b)
   |_,_=>none
def rdF(P:Program)(g:TypeId→DataW H→Option (List V))(tot:Nat):List Field→Nat→List (DataW H)→Option (List V)
 |[],off,[]=>if off=tot then some []else none
 |f::fs,off,d::ds=>if f.offset=off then(match g f.type d,rdF P g tot fs (off+P.cellsOf f.type) ds with
   |some a,some b=>if a.length=P.cellsOf f.type then some (a ++b)else none
   |_,_=>none)else none
 |_,_,_=>none
def rd(P:Program):Nat→TypeId→DataW H→Option (List V)
 |0,_,_=>none
 |n+1,t,d=>match P.underlying t with
   |some .bool=>match d with
     | .lit (.bool b)=>some [.bool b]
     |_=>none
   |some (.int _)=>match d with
     | .lit (.int k x)=>some [.int k x]
     |_=>none
   |some (.slice e)=>match d with
     | .nil=>some [.sl .no (P.cellsOf e) []]
     | .slice es _=>if 0<P.cellsOf e then(rdAll (rd P n e) es).map fun xs=>[.sl .no (P.cellsOf e) xs]else none
     |_=>none
   |some (.struct fs)=>match d with
     | .agg ps=>rdF P (rd P n) (P.cellsOf t) fs.toList 0 ps
     |_=>none
   |_=>none
def γ0:G:=fun _ _=>none
theorem own0 {b off:Nat}: ¬Own γ0 b off:=by rintro⟨d,l,g,h,_⟩;cases h
theorem elemAll_append {a b:List V}(ha:V.elemAll a=true)(hb:V.elemAll b=true):V.elemAll (a ++b)=true:=by
 induction a with
 |nil=>exact hb
 |cons x r ih=>simp[V.elemAll]at ha⊢;exact⟨ha.1,ih ha.2⟩
theorem rdAll_get {g:DataW H→Option (List V)}: ∀ {ds:List (DataW H)} {xs:List (List V)},rdAll g ds=some xs→xs.length=ds.length∧ ∀(i:Nat) d,ds[i]? =some d→ ∃x,xs[i]? =some x∧g d=some x
 |[],xs,h=>by simp[rdAll]at h;subst h;simp
 |d::r,xs,h=>by
   simp only[rdAll]at h
   split at h
   ·rename_i a b h1 h2
    cases h
    obtain⟨k1,k2⟩:=rdAll_get h2
    refine⟨by simp[k1],fun i d' hd=> ?_⟩
    cases i with
    |zero=>simp at hd;subst hd;exact⟨a,rfl,h1⟩
    |succ i=>exact k2 i d' (by simpa using hd)
   ·cases h
theorem rdF_ok {D:Nat} {γ:G} {g:TypeId→DataW H→Option (List V)} {tot:Nat} {cs:List Value}(htot:cs.length=tot): ∀(fs:List Field) (off:Nat) (ds:List (DataW H)) {vs:List V},rdF P g tot fs off ds=some vs→
 (∀(i:Nat) f d a,fs[i]? =some f→ds[i]? =some d→g f.type d=some a→LR D w γ a ((cs.drop f.offset).take (P.cellsOf f.type))∧V.elemAll a=true)→off≤tot→LR D w γ vs (cs.drop off)∧V.elemAll vs=true
 |[],off,[],vs,h,_,hle=>by
   simp only[rdF]at h
   split at h
   ·rename_i ho
    cases h
    subst ho
    refine⟨?_,rfl⟩
    rw[List.drop_eq_nil_of_le (by omega)]
    exact LR.nil
   ·cases h
 |[],off,_::_,vs,h,_,_=>by simp[rdF]at h
 |_::_,off,[],vs,h,_,_=>by simp[rdF]at h
 |f::fs,off,d::ds,vs,h,hf,hle=>by
   simp only[rdF]at h
   split at h
   ·rename_i ho
    split at h
    ·rename_i a b h1 h2
     split at h
     ·rename_i hal
      cases h
      obtain⟨k1,k2⟩:=hf 0 f d a rfl rfl h1
      have hlen:((cs.drop f.offset).take (P.cellsOf f.type)).length=P.cellsOf f.type:=by rw[←k1.1];exact hal
      have hle2:off+P.cellsOf f.type≤tot:=by
       simp only[List.length_take,List.length_drop]at hlen
       omega
      obtain⟨k3,k4⟩:=rdF_ok htot fs (off+P.cellsOf f.type) ds h2 (fun i f' d' a' q1 q2 q3=>hf (i+1) f' d' a' (by simpa using q1) (by simpa using q2) q3) hle2
      refine⟨?_,elemAll_append k2 k4⟩
      have:=k1.append k3
      rw[ho,←List.drop_drop,List.take_append_drop]at this
      exact this
     ·cases h
    ·cases h
   ·cases h
theorem rd_vr {D:Nat} {sp:Nat→Bool}: ∀(n:Nat) {t:TypeId} {cs:List Value} {d:DataW H} {ps:List MemPlace} {m:Nat} {vs:List V},DataW.trod enc P w 0 sp true m t cs=some (d,ps)→rd P n t d=some vs→LR D w γ0 vs cs∧V.elemAll vs=true
 |0,_,_,_,_,_,_,_,h=>by simp[rd]at h
 |n+1,t,cs,d,ps,m,vs,ht,h=>by
   simp only[rd]at h
   split at h
   ·rename_i hu
    obtain⟨b,rfl,hx⟩:=DataW.trod_bool hu ht
    cases hx
    simp only[Option.some.injEq]at h;subst h
    exact⟨LR.cons (.bool b) LR.nil,rfl⟩
   ·rename_i k hu
    obtain⟨x,rfl,hx,_⟩:=DataW.trod_int hu ht
    cases hx
    simp only[Option.some.injEq]at h;subst h
    exact⟨LR.cons (.int k x) LR.nil,rfl⟩
   ·rename_i e hu
    rcases DataW.trod_slice hu ht with ⟨rfl,hx⟩|⟨a,len,cap,elems,rest,n',rfl,rfl,hx,_,hl,hmax,hlen,hel,_,_⟩
    ·cases hx
     simp only[Option.some.injEq]at h;subst h
     exact⟨LR.cons (.slnil _ _ trivial) LR.nil,rfl⟩
    ·cases hx
     dsimp only at h
     split at h
     ·rename_i hc
      obtain⟨xs,h1,rfl⟩:=Option.map_eq_some_iff.1 h
      obtain⟨k1,k2⟩:=rdAll_get h1
      have hxl:xs.length=len:=by rw[k1];simp[hlen]
      refine⟨LR.cons ?_ LR.nil,rfl⟩
      have each: ∀i,i<len→ ∃x cs',xs[i]? =some x∧w.cells? 0 (a.add (i*P.cellsOf e)) (P.cellsOf e)=some cs'∧LR D w γ0 x cs'∧V.elemAll x=true:=by
       intro i hi
       have hi':i<elems.length:=by omega
       have h2:=hel i hi
       rw[List.getElem?_eq_getElem hi']at h2
       obtain⟨cs',q1,q2⟩:=Option.bind_eq_some_iff.1 h2
       obtain⟨x,q3,q4⟩:=k2 i elems[i].1 (by simp[hi'])
       obtain⟨q5,q6⟩:=rd_vr n (d:=elems[i].1) (ps:=elems[i].2) q2 q4
       exact⟨x,cs',q3,q1,q5,q6⟩
      by_cases h0:len=0
      ·subst h0
       have:xs=[]:=List.eq_nil_of_length_eq_zero hxl
       subst this
       exact .sl0 _ _ a cap trivial
      ·have hspot:a=⟨a.block,a.off,none⟩:=by
        obtain⟨x,cs',_,q1,q2,_⟩:=each 0 (by omega)
        obtain⟨c1,c2,c3⟩:=World.cells?_some q1
        have hlt:0<cs'.length:=by omega
        have:=c3 0 hc
        simp only[Nat.zero_mul,Addr.add,if_true]at this
        obtain⟨b,o,sp⟩:=a
        cases sp with
        |none=>rfl
        |some q=>
          have hn:w.cell? ⟨b,o,some q⟩=none:=by simp only[World.cell?];split<;>simp
          rw[hn,List.getElem?_eq_getElem hlt]at this
          cases this
       have cellAt: ∀(i:Nat) x (j:Nat) v,xs[i]? =some x→x[j]? =some v→ ∃u,w.cell? ⟨a.block,a.off+(i*P.cellsOf e+j),none⟩=some u∧VR D w γ0 v u:=by
        intro i x j v hi hj
        have hi':i<len:=by rw[←hxl];exact(List.getElem?_eq_some_iff.1 hi).1
        obtain⟨x',cs',q3,q1,q2,_⟩:=each i hi'
        rw[hi]at q3;cases q3
        obtain⟨c1,c2,c3⟩:=World.cells?_some q1
        have hjl:j<cs'.length:=by rw[←q2.1];exact(List.getElem?_eq_some_iff.1 hj).1
        have:=c3 j (by omega)
        rw[List.getElem?_eq_getElem hjl]at this
        refine⟨cs'[j],?_,q2.2 j v _ hj (by simp)⟩
        rw[hspot,Addr.add_lit,Addr.add_lit]at this
        rw[←Nat.add_assoc]
        exact this
       rw[hspot,←hxl]
       refine .sl .no _ xs a.block a.off cap (fun x hx=> ?_) (fun x hx=> ?_) (by omega) trivial (fun i x j v hi hj=> ?_) (fun _ _ _ _ _ _=>own0) (fun i x j v u hi hj hu=> ?_)
       ·obtain⟨i,hi,rfl⟩:=List.getElem_of_mem hx
        obtain⟨x',cs',q3,q1,q2,_⟩:=each i (by omega)
        rw[List.getElem?_eq_getElem hi]at q3;cases q3
        obtain⟨c1,c2,c3⟩:=World.cells?_some q1
        rw[q2.1];omega
       ·obtain⟨i,hi,rfl⟩:=List.getElem_of_mem hx
        obtain⟨x',cs',q3,q1,q2,q5⟩:=each i (by omega)
        rw[List.getElem?_eq_getElem hi]at q3;cases q3
        exact q5
       ·obtain⟨u,hu,_⟩:=cellAt i x j v hi hj
        exact⟨u,hu⟩
       ·obtain⟨u',hu',hv⟩:=cellAt i x j v hi hj
        rw[hu]at hu';cases hu'
        exact hv
     ·cases h
   ·rename_i fs hu
    obtain⟨xs,n',rfl,hx,hcl,hxl,hf⟩:=DataW.trod_struct hu ht
    cases hx
    dsimp only at h
    have:=rdF_ok (D:=D) (γ:=γ0) (w:=w) hcl fs.toList 0 _ h (fun i f d a q1 q2 q3=> ?_) (Nat.zero_le _)
    ·simpa using this
    ·have q1':fs[i]? =some f:=by simpa using q1
     have h2:=hf i f q1'
     rw[List.getElem?_map]at q2
     obtain⟨y,hy,rfl⟩:=Option.map_eq_some_iff.1 q2
     rw[hy]at h2
     exact rd_vr n (d:=y.1) (ps:=y.2) h2 q3
   ·cases h
end
end Go.Ab

/-
  A law: from 'den' to the row's post.
-/
namespace Go.Ab
open Go.ChangeShapes Go.WideShapes Go.RowKit
section
variable {H : Type} {enc : TypeId × Value → H} {P : Program} {W W' : World}
theorem trodAll_stays(hl:laidOutB P=true) {sp':Nat→Bool}: ∀ {ts:List TypeId} {vs:List Value} {ds:List (DataW H)} {ps:List MemPlace},(∀t∈ts,P.readableRec t=true∧t<P.types.size)→
 DataW.TrodAll enc P W 0 (fun _=>true) true ts vs ds ps→(∀p∈ps,W.sameAt W' p)→(∀p∈ps,sp' p.block=true)→DataW.TrodAll enc P W' 0 sp' true ts vs ds ps
 |[],vs,ds,ps,_,h,_,_=>by
   obtain⟨rfl,rfl,rfl⟩:=trodAll_nil h
   exact rfl
 |t::ts,vs,ds,ps,ht,h,hs,hp=>by
   obtain⟨v,vs1,d,ds1,a,b,rfl,rfl,rfl,h1,h2⟩:=trodAll_cons h
   exact⟨a,b,WideElems.Trod_stays hl (ht t (by simp)).1 (ht t (by simp)).2 h1 (fun p h=>hs p (by simp[h])) (fun p h=>hp p (by simp[h])),
    trodAll_stays hl (fun t' h=>ht t' (by simp[h])) h2 (fun p h=>hs p (by simp[h])) (fun p h=>hp p (by simp[h])),rfl⟩
theorem law_post {f:Func} {s:ChangeSpec} {args:Array Value} {ds gs:List (DataW H)} {before:List MemPlace} {tb:TypeId}(hl:laidOutB P=true)(ht: ∀t∈f.params.toList,P.readableRec t=true∧t<P.types.size)
 (hvars:s.vars=[]) (hfn: ∀ds gs,gs=[]→ds.length=f.params.size→s.fn H (ds ++gs)= {results:=[.lit (.bool true)],args:=ds}) (hres:f.resultTypes= #[tb]) (hb:P.underlying tb=some .bool)
 (hW:DataW.Whole enc P f.params.toList s.vars false W args.toList ds gs before) (hbl:Below W.heap.size W W'):s.post enc P f false true false false W args (.bool true) W':=by
 have hW':=hW
 have hlt:=hW.lt
 obtain⟨p,q,hA,hV,rfl,hz,hn⟩:=hW
 rw[hvars]at hV
 obtain⟨rfl,rfl⟩:=trodVars_none hV
 have hds:ds.length=f.params.size:=by
  have key: ∀ {ts:List TypeId} {vs:List Value} {ds:List (DataW H)} {ps:List MemPlace},DataW.TrodAll enc P W 0 (fun _=>true) true ts vs ds ps→ds.length=ts.length:=by
   intro ts
   induction ts with
   |nil=>intro vs ds ps h;obtain⟨rfl,rfl,rfl⟩:=trodAll_nil h;rfl
   |cons t ts ih=>intro vs ds ps h;obtain⟨v,vs1,d,ds1,a,b,rfl,rfl,rfl,h1,h2⟩:=trodAll_cons h;simp[ih h2]
  simpa using key hA
 have hfn':=hfn ds [] rfl hds
 refine⟨ds,[],p ++[],[],p,[],hW',?_,?_,?_,hbl.frame _,fun h=>by cases h⟩
 ·rw[hfn',hres]
  exact trodAll_mk1 ⟨1,by simp[DataW.trod,hb,Value.cells]⟩
 ·rw[hfn']
  exact trodAll_stays hl ht hA (fun x hx=>hbl.same (hlt x (by simp[hx]))) (fun x hx=>by simpa using hlt x (by simp[hx]))
 ·rw[hvars,hfn']
  exact rfl
theorem sr0 {K:KK}:SR K [] W γ0:=by
 refine⟨?_,?_,?_,?_⟩
 ·intro d l x h;simp[sget]at h
 ·intro _ _ _;rfl
 ·intro d l g d' l' g' b h;cases h
 ·intro l g b h;cases h
theorem law_calls {T:Tab}(hm:P.follows .mixedOrders=true)(tab:TabOk P T) {f:FuncId} {vs:List V} {args:Array Value}(hl:LR 0 W γ0 vs args.toList)(hd:den T f vs 0 []=some (.bool true,[])):
 Calls P f args W fun e W'=>e= .returned (.bool true)∧Below W.heap.size W W':=by
 have h:=(den_sound hm tab hd).2 W γ0 args.toList hl sr0
 rw[Array.toArray_toList]at h
 have h2:CallsIn Fence.wide 0 P f args W (CPost (KP P) [] W γ0 (.bool true) []):=callsIn_wide.2 h
 refine callsIn_wide.1 (h2.mono ?_)
 rintro en w' ⟨u,γ',rfl,k1,_,k3,_⟩
 exact⟨by rw[k1.bool_inv],⟨k3.os,k3.tape,k3.output,k3.size,fun b hb=>k3.block b hb (fun off=>own0)⟩⟩
end
end Go.Ab

/-
  A table out of a list of functions that have been compiled.
-/
namespace Go.Ab
def Tab.of(l:List (FuncId×AFn)):Tab:=⟨fun f=>(l.lookup f).map .code⟩
theorem Tab.of_code {l:List (FuncId×AFn)} {f:FuncId} {fn:AFn}(h:l.lookup f=some fn):(Tab.of l).fns f=some (.code fn):=by simp[Tab.of,h]
def Compiled(P:Program)(x:FuncId×AFn):Prop:= ∃func ann,P.funcs[x.1]? =some func∧compFn P func ann=some x.2
theorem lookup_mem {l:List (FuncId×AFn)} {f:FuncId} {fn:AFn}(h:l.lookup f=some fn):(f,fn)∈l:=by
 induction l with
 |nil=>simp at h
 |cons x r ih=>
   obtain⟨k,y⟩:=x
   simp only[List.lookup_cons]at h
   split at h
   ·rename_i hk;simp at hk;subst hk;cases h;simp
   ·exact List.mem_cons_of_mem _ (ih h)
theorem Tab.of_ok {P:Program} {l:List (FuncId×AFn)}(h: ∀x∈l,Compiled P x):TabOk P (Tab.of l) where
 code:=fun f fn hf=>by
  simp only[Tab.of,Option.map_eq_some_iff]at hf
  obtain⟨fn',h1,h2⟩:=hf
  cases h2
  exact h (f,fn) (lookup_mem h1)
 prim:=fun f p hf=>by
  simp only[Tab.of,Option.map_eq_some_iff]at hf
  obtain⟨_,_,h2⟩:=hf
  cases h2
end Go.Ab

/-
  The evaluator's equations as a simp set: one small function a step, told by its constructors.
-/
namespace Go.Ab
@[reducible] def ao(d:Nat)(x:AOp):AOper:=⟨some d,x,none,[],[]⟩
@[reducible] def ap(d:Nat)(x:AOp)(pre:List Nat):AOper:=⟨some d,x,none,pre,[]⟩
@[reducible] def ag(d:Nat)(x:AOp)(g:Nat)(b:Bool)(pre:List Nat):AOper:=⟨some d,x,some (g,b),pre,[]⟩
@[simp] theorem ao_eq(d x):ao d x=⟨some d,x,none,[],[]⟩:=rfl
@[simp] theorem ap_eq(d x pre):ap d x pre=⟨some d,x,none,pre,[]⟩:=rfl
@[simp] theorem ag_eq(d x g b pre):ag d x g b pre=⟨some d,x,some (g,b),pre,[]⟩:=rfl
section
variable {T : Tab}
attribute [simp] bothRes_same run_skip run_label run_ret run_exit run_block run_scope run_seq thenRun_normal thenRun_ret thenRun_exit thenRun_ite blockRes_ite blockRes_normal blockRes_ret blockRes_exit Env.get V.stripAll V.strip argEnv V.map V.mapAll dedup patchAll distinct Loc.get Loc.put setAll V.elemAll V.pure V.pureAll V.oneAll idxOf newLab opdAll List.filter_cons
@[simp] theorem ev_t(e n):Opd.ev e (.t n)=e.get n:=rfl
@[simp] theorem ev_c(e v):Opd.ev e (.c v)=v:=rfl
@[simp] theorem setDst_some(d v e):setDst (some d) v e=(d,v)::e:=rfl
@[simp] theorem setDst_none(v e):setDst none v e=e:=rfl
@[simp] theorem capDrop_full(d keep):Cap.drop d keep .full= .full:=rfl
@[simp] theorem capDrop_no(d keep):Cap.drop d keep .no= .no:=rfl
@[simp] theorem capDrop_own(d keep d' l):Cap.drop d keep (.own d' l)=if d'=d∧l∉keep then .no else .own d' l:=rfl
@[simp] theorem idx_int(k n):V.idx (.int k n)=some n:=rfl
@[simp] theorem cells_undef:V.cells (.undef)=[.undef]:=rfl
@[simp] theorem isDef_skip:V.isDef (.skip)=false:=rfl
@[simp] theorem one_skip:V.one (.skip)=false:=rfl
@[simp] theorem isDef_undef:V.isDef (.undef)=false:=rfl
@[simp] theorem one_undef:V.one (.undef)=false:=rfl
@[simp] theorem cells_int(k n):V.cells (.int k n)=[.int k n]:=rfl
@[simp] theorem isDef_int(k n):V.isDef (.int k n)=true:=rfl
@[simp] theorem one_int(k n):V.one (.int k n)=true:=rfl
@[simp] theorem cells_bool(b):V.cells (.bool b)=[.bool b]:=rfl
@[simp] theorem isDef_bool(b):V.isDef (.bool b)=true:=rfl
@[simp] theorem one_bool(b):V.one (.bool b)=true:=rfl
@[simp] theorem cells_agg(cs):V.cells (.agg cs)=cs:=rfl
@[simp] theorem isDef_agg(cs):V.isDef (.agg cs)=true:=rfl
@[simp] theorem one_agg(cs):V.one (.agg cs)=false:=rfl
@[simp] theorem cells_tup(cs):V.cells (.tup cs)=[.tup cs]:=rfl
@[simp] theorem isDef_tup(cs):V.isDef (.tup cs)=true:=rfl
@[simp] theorem one_tup(cs):V.one (.tup cs)=false:=rfl
@[simp] theorem cells_nilp:V.cells (.nilp)=[.nilp]:=rfl
@[simp] theorem isDef_nilp:V.isDef (.nilp)=true:=rfl
@[simp] theorem one_nilp:V.one (.nilp)=true:=rfl
@[simp] theorem cells_ptr(d l o):V.cells (.ptr d l o)=[.ptr d l o]:=rfl
@[simp] theorem isDef_ptr(d l o):V.isDef (.ptr d l o)=true:=rfl
@[simp] theorem one_ptr(d l o):V.one (.ptr d l o)=true:=rfl
@[simp] theorem cells_ep(cs):V.cells (.ep cs)=[.ep cs]:=rfl
@[simp] theorem isDef_ep(cs):V.isDef (.ep cs)=true:=rfl
@[simp] theorem one_ep(cs):V.one (.ep cs)=true:=rfl
@[simp] theorem cells_sl(c z es):V.cells (.sl c z es)=[.sl c z es]:=rfl
@[simp] theorem isDef_sl(c z es):V.isDef (.sl c z es)=true:=rfl
@[simp] theorem one_sl(c z es):V.one (.sl c z es)=true:=rfl
@[simp] theorem cells_fn(f a b):V.cells (.fn f a b)=[.fn f a b]:=rfl
@[simp] theorem isDef_fn(f a b):V.isDef (.fn f a b)=true:=rfl
@[simp] theorem one_fn(f a b):V.one (.fn f a b)=true:=rfl
@[simp] theorem cells_nilf:V.cells (.nilf)=[.nilf]:=rfl
@[simp] theorem isDef_nilf:V.isDef (.nilf)=true:=rfl
@[simp] theorem one_nilf:V.one (.nilf)=true:=rfl
@[simp] theorem cells_yld(d l):V.cells (.yld d l)=[.yld d l]:=rfl
@[simp] theorem isDef_yld(d l):V.isDef (.yld d l)=true:=rfl
@[simp] theorem one_yld(d l):V.one (.yld d l)=true:=rfl
@[simp] theorem cells_asl(d l z n o k):V.cells (.asl d l z n o k)=[.asl d l z n o k]:=rfl
@[simp] theorem isDef_asl(d l z n o k):V.isDef (.asl d l z n o k)=true:=rfl
@[simp] theorem one_asl(d l z n o k):V.one (.asl d l z n o k)=true:=rfl
@[simp] theorem cells_csl(p n):V.cells (.csl p n)=[.csl p n]:=rfl
@[simp] theorem isDef_csl(p n):V.isDef (.csl p n)=true:=rfl
@[simp] theorem one_csl(p n):V.one (.csl p n)=true:=rfl
@[simp] theorem cells_mp(p):V.cells (.mp p)=[.mp p]:=rfl
@[simp] theorem isDef_mp(p):V.isDef (.mp p)=true:=rfl
@[simp] theorem one_mp(p):V.one (.mp p)=true:=rfl
@[simp] theorem cells_eptr(d l q i j):V.cells (.eptr d l q i j)=[.eptr d l q i j]:=rfl
@[simp] theorem isDef_eptr(d l q i j):V.isDef (.eptr d l q i j)=true:=rfl
@[simp] theorem one_eptr(d l q i j):V.one (.eptr d l q i j)=true:=rfl
@[simp] theorem aliveE_harr(q lo z es):(aliveE q (some (.harr lo z es))=true)=(lo≤q∧q≤es.length):=by simp[aliveE]
@[simp] theorem aliveE_arr(q z es):(aliveE q (some (.arr z es))=true)=(q=es.length):=by simp[aliveE]
@[simp] theorem capRen_own(own d ls d' lab a l):Cap.ren own d ls d' lab (.own a l)=if a=d then(if own&&ls.contains l then .own d' (newLab lab l ls) else .no) else .own a l:=rfl
@[simp] theorem capRen_full(own d ls d' lab):Cap.ren own d ls d' lab .full= .full:=rfl
@[simp] theorem capRen_no(own d ls d' lab):Cap.ren own d ls d' lab .no= .no:=rfl
@[simp] theorem goes_cell(own cs):Entry.goes own (.cell cs)=true:=rfl
@[simp] theorem goes_arr(own z es):Entry.goes own (.arr z es)=own:=rfl
@[simp] theorem goes_mp(own t kvs):Entry.goes own (.mp t kvs)=true:=rfl
@[simp] theorem goes_tok(own n):Entry.goes own (.tok n)=own:=rfl
attribute [simp] run_only
@[simp] theorem onlyRet_ret(e s):onlyRet (some (.ret,e,s))=some (.ret,e,s):=rfl
@[simp] theorem thenRun_none(k:AC):thenRun T none k=none:=rfl
@[simp] theorem blockRes_none(id:Nat):blockRes id none=none:=rfl
noncomputable def condK(T:Tab)(v:V)(a b:AC)(e:Env)(s:Stk):Res:=match v with
 | .bool true=>Run T a e s
 | .bool false=>Run T b e s
 | .anyb=>bothRes (Run T a e s) (Run T b e s)
 |_=>none
@[congr] theorem condK_congr {v v':V}(h:v=v')(a b:AC)(e:Env)(s:Stk):condK T v a b e s=condK T v' a b e s:=by rw[h]
@[simp] theorem run_condK(c a b e s):Run T (.cond c a b) e s=condK T (c.ev e) a b e s:=by
 rw[run_cond]
 cases c.ev e with
 |bool x=>cases x<;>rfl
 |_=>rfl
@[simp] theorem condK_any(a b:AC)(e:Env)(s:Stk):condK T .anyb a b e s=bothRes (Run T a e s) (Run T b e s):=rfl
@[simp] theorem condK_bool(x:Bool)(a b:AC)(e:Env)(s:Stk):condK T (.bool x) a b e s=if x=true then Run T a e s else Run T b e s:=by cases x<;>rfl
def onlyK(live:List Nat):Option (Env×Stk)→Res
 |some (e,s)=>some (.normal,e.only live,s)
 |none=>none
@[simp] theorem onlyK_some(live e s):onlyK live (some (e,s))=some (.normal,Env.only live e,s):=rfl
@[simp] theorem onlyK_none(live):onlyK live none=none:=rfl
@[simp] theorem onlyK_ite(live)(p:Prop) [Decidable p](x y):onlyK live (if p then x else y)=if p then onlyK live x else onlyK live y:=by split<;>rfl
@[simp] theorem run_regionK(ops live e s):Run T (.region false ops live) e s=onlyK live (runOps T (Run T) ops e s):=by
 rw[run_eq];simp only[step];cases runOps T (Run T) ops e s<;>rfl
@[simp] theorem only_nil(e:Env):Env.only [] e=[]:=rfl
@[simp] theorem only_cons(t:Nat)(r:List Nat)(e:Env):Env.only (t::r) e=(t,e.get t)::Env.only r e:=rfl
noncomputable def opThen(T:Tab)(r:List AOper)(dst:Option Nat)(e:Env):Option (V×Stk)→Option (Env×Stk)
 |some (v,s)=>runOps T (Run T) r (setDst dst v e) s
 |none=>none
@[simp] theorem opThen_some(r dst e v s):opThen T r dst e (some (v,s))=runOps T (Run T) r (setDst dst v e) s:=rfl
@[simp] theorem opThen_none(r dst e):opThen T r dst e none=none:=rfl
@[simp] theorem opThen_ite(r dst e)(p:Prop) [Decidable p](x y):opThen T r dst e (if p then x else y)=if p then opThen T r dst e x else opThen T r dst e y:=by split<;>rfl
@[simp] theorem runOps_nil(e s):runOps T (Run T) [] e s=some (e,s):=rfl
@[simp] theorem runOps_cons(dst op pre hide r e s):runOps T (Run T) (⟨dst,op,none,pre,hide⟩::r) e s=opThen T r dst e (op1 T (Run T) ⟨dst,op,none,pre,hide⟩ e s):=by
 simp only[runOps,opThen];cases op1 T (Run T) ⟨dst,op,none,pre,hide⟩ e s<;>rfl
noncomputable def guardK(T:Tab)(g:V)(want:Bool)(dst:Option Nat)(op:AOp)(pre hide:List Nat)(r:List AOper)(e:Env)(s:Stk):Option (Env×Stk):=match g with
 | .bool b=>if b=want then opThen T r dst e (op1 T (Run T) ⟨dst,op,none,pre,hide⟩ e s)else runOps T (Run T) r (setDst dst .skip e) s
 | .skip=>runOps T (Run T) r (setDst dst .skip e) s
 |_=>none
@[congr] theorem guardK_congr {g g':V}(h:g=g')(want dst op pre hide r e s):guardK T g want dst op pre hide r e s=guardK T g' want dst op pre hide r e s:=by rw[h]
@[simp] theorem runOps_guard(dst op g want pre hide r e s):runOps T (Run T) (⟨dst,op,some (g,want),pre,hide⟩::r) e s=guardK T (e.get g) want dst op pre hide r e s:=by
 simp only[runOps,guardK,opThen,op1]
 cases e.get g<;>rfl
@[simp] theorem guardK_skip(want dst op pre hide r e s):guardK T .skip want dst op pre hide r e s=runOps T (Run T) r (setDst dst .skip e) s:=rfl
@[simp] theorem guardK_bool(b want dst op pre hide r e s):guardK T (.bool b) want dst op pre hide r e s=if b=want then opThen T r dst e (op1 T (Run T) ⟨dst,op,none,pre,hide⟩ e s) else runOps T (Run T) r (setDst dst .skip e) s:=rfl
def effK(s:Stk):Option (V×Eff)→Option (V×Stk)
 |some (v,f)=>some (v,seff s f)
 |none=>none
@[simp] theorem effK_none(s):effK s none=none:=rfl
@[simp] theorem effK_pure(s v):effK s (some (v,none))=some (v,s):=rfl
@[simp] theorem effK_put(s v d l x):effK s (some (v,some (d,l,x)))=some (v,sput s d l x):=rfl
@[simp] theorem effK_ite(s)(p:Prop) [Decidable p](x y):effK s (if p then x else y)=if p then effK s x else effK s y:=by split<;>rfl
@[simp] theorem op1_call(d f args g pre hide e s):op1 T (Run T) ⟨some d, .call f args,g,pre,hide⟩ e s=den T f (V.stripAll (opdAll e args)) (16*d) s:=rfl
@[simp] theorem op1_callv(d x args g pre hide e s):op1 T (Run T) ⟨some d, .callv x args,g,pre,hide⟩ e s=denV T (x.ev e) (V.stripAll (opdAll e args)) (16*d) s:=rfl
@[simp] theorem op1_call'(f args g pre hide e s):op1 T (Run T) ⟨none, .call f args,g,pre,hide⟩ e s=den T f (V.stripAll (opdAll e args)) 0 s:=rfl
@[simp] theorem op1_callv'(x args g pre hide e s):op1 T (Run T) ⟨none, .callv x args,g,pre,hide⟩ e s=denV T (x.ev e) (V.stripAll (opdAll e args)) 0 s:=rfl
theorem op1_other {op:AOp}(h:op.callOf= .other)(dst g pre hide e s):op1 T (Run T) ⟨dst,op,g,pre,hide⟩ e s=effK s (aop op (16*dst.getD 0) e s):=by
 simp only[op1,h,effK];cases aop op (16*dst.getD 0) e s<;>rfl
section
variable (dst : Option Nat) (g : Option (Nat × Bool)) (pre hide : List Nat) (e : Env) (s : Stk)
@[simp] theorem o_mv(x):op1 T (Run T) ⟨dst, .mv x,g,pre,hide⟩ e s=some (x.ev e,s):=rfl
def pickK(c a b:V)(s:Stk):Option (V×Stk):=match c with
 | .bool true=>some (a,s)
 | .bool false=>some (b,s)
 |_=>none
@[simp] theorem pickK_true(a b s):pickK (.bool true) a b s=some (a,s):=rfl
@[simp] theorem pickK_false(a b s):pickK (.bool false) a b s=some (b,s):=rfl
@[simp] theorem pickK_or(c x s):pickK (.bool c) (.bool true) (.bool x) s=some (.bool (c||x),s):=by cases c<;>rfl
@[simp] theorem pickK_and(c x s):pickK (.bool c) (.bool x) (.bool false) s=some (.bool (c&&x),s):=by cases c<;>rfl
@[simp] theorem o_pick(c a b):op1 T (Run T) ⟨dst, .pick c a b,g,pre,hide⟩ e s=pickK (c.ev e) (a.ev e) (b.ev e) s:=by
 simp only[op1,AOp.callOf,aop,pickK];cases c.ev e<;>try rfl
 rename_i b;cases b<;>rfl
def boxK(v:V)(lab:Nat)(s:Stk):Option (V×Stk):=if v.isDef∧(sget s (dep s) lab).isNone∧s≠[]then some (.ptr (dep s) lab 0,sput s (dep s) lab (.cell v.cells))else none
@[simp] theorem o_box(d x):op1 T (Run T) ⟨some d, .box x,g,pre,hide⟩ e s=boxK (x.ev e) (16*d) s:=by
 rw[op1_other rfl];simp only[aop,boxK,Option.getD_some];split<;>rfl
@[simp] theorem dep_cons(loc:Loc)(r:Stk):dep (loc::r)=r.length:=by simp[dep]
@[simp] theorem sget_top(loc:Loc)(r:Stk)(l:Nat):sget (loc::r) r.length l=loc.get l:=by simp[sget]
@[simp] theorem sput_top(loc:Loc)(r:Stk)(l:Nat)(x:Entry):sput (loc::r) r.length l x=loc.put l x::r:=by simp[sput]
@[simp] theorem boxK_cons(v lab loc)(r:Stk):boxK v lab (loc::r)=if v.isDef∧(loc.get lab).isNone then some (.ptr r.length lab 0,loc.put lab (.cell v.cells)::r) else none:=by simp[boxK]
def allocK(z:List V)(lab:Nat)(s:Stk):Option (V×Stk):=if (sget s (dep s) lab).isNone∧s≠[]then some (.ptr (dep s) lab 0,sput s (dep s) lab (.cell z))else none
@[simp] theorem o_alloc(d z):op1 T (Run T) ⟨some d, .alloc z,g,pre,hide⟩ e s=allocK z (16*d) s:=by
 rw[op1_other rfl];simp only[aop,allocK,Option.getD_some];split<;>rfl
@[simp] theorem allocK_cons(z lab loc)(r:Stk):allocK z lab (loc::r)=if (loc.get lab).isNone then some (.ptr r.length lab 0,loc.put lab (.cell z)::r) else none:=by simp[allocK]
def buildK(s:Stk):Option (List V)→Option (V×Stk)
 |some cs=>some (.agg cs,s)
 |none=>none
@[simp] theorem buildK_some(s cs):buildK s (some cs)=some (.agg cs,s):=rfl
def fillK(e:Env)(r:List (Nat×Nat×Opd))(off size:Nat)(v:V)(cs:List V):Option (List V):=if v.cells.length=size&&off+size≤cs.length&&v.isDef then fillAll e r (setAll cs off v.cells)else none
@[simp] theorem fillAll_nil(e cs):fillAll e [] cs=some cs:=rfl
@[simp] theorem fillAll_cons(e off size x r cs):fillAll e ((off,size,x)::r) cs=fillK e r off size (x.ev e) cs:=rfl
@[simp] theorem fillK_eq(e r off size v cs):fillK e r off size v cs=if v.cells.length=size∧off+size≤cs.length∧v.isDef=true then fillAll e r (setAll cs off v.cells) else none:=by simp[fillK,and_assoc]
@[simp] theorem o_build(z ps):op1 T (Run T) ⟨dst, .build z ps,g,pre,hide⟩ e s=buildK s (fillAll e ps z):=by
 simp only[op1,AOp.callOf,aop];cases fillAll e ps z<;>rfl
def litK(n:Nat)(s:Stk):Option (List (List V))→Option (V×Stk)
 |some es=>some (.sl .full n es,s)
 |none=>none
@[simp] theorem litK_some(n s es):litK n s (some es)=some (.sl .full n es,s):=rfl
@[simp] theorem litAll_nil(e size es):litAll e size [] es=some es:=rfl
def litV(e:Env)(size:Nat)(i:Nat)(r:List (Nat×Opd))(v:List V)(es:List (List V)):Option (List (List V)):=if v.length=size&&V.elemAll v&&i<es.length then litAll e size r (es.set i v)else none
@[simp] theorem litAll_cons(e size i x r es):litAll e size ((i,x)::r) es=litV e size i r ((x.ev e).strip.cells) es:=rfl
@[simp] theorem litV_eq(e size i r v es):litV e size i r v es=if v.length=size∧V.elemAll v=true∧i<es.length then litAll e size r (es.set i v) else none:=by simp[litV,and_assoc]
@[simp] theorem o_lit(z n ps):op1 T (Run T) ⟨dst, .lit z n ps,g,pre,hide⟩ e s=if V.elemAll (V.stripAll z)=true then litK z.length s (litAll e z.length ps (List.replicate n (V.stripAll z))) else none:=by
 rw[op1_other rfl]
 simp only[aop]
 split
 ·cases litAll e z.length ps (List.replicate n (V.stripAll z))<;>rfl
 ·rfl
def valK(s:Stk):Option V→Option (V×Stk)
 |some v=>some (v,s)
 |none=>none
@[simp] theorem valK_some(s v):valK s (some v)=some (v,s):=rfl
@[simp] theorem part_one(cs:List V)(off:Nat):part none cs off=cs[off]? :=rfl
@[simp] theorem part_all(n:Nat)(cs:List V)(off:Nat):part (some n) cs off=if off+n≤cs.length then some (.agg ((cs.drop off).take n)) else none:=rfl
def cellK(n:Option Nat)(off:Nat)(s:Stk):Option Entry→Option (V×Stk)
 |some (.cell cs)=>valK s (part n cs off)
 |_=>none
@[simp] theorem cellK_cell(n off s cs):cellK n off s (some (.cell cs))=valK s (part n cs off):=rfl
def arrK(n:Option Nat)(q i j:Nat)(s:Stk):Option Entry→Option (V×Stk)
 |some (.arr _ es)=>if q=es.length then(match es[i]? with
   |some cs=>valK s (part n cs j)
   |none=>none)else none
 |some (.harr lo _ es)=>if lo≤q∧q≤es.length∧i<q then(match es[i]? with
   |some cs=>valK s (part n cs j)
   |none=>none)else none
 |_=>none
def rowK(n:Option Nat)(j:Nat)(s:Stk):Option (List V)→Option (V×Stk)
 |some cs=>valK s (part n cs j)
 |none=>none
@[simp] theorem rowK_some(n j s cs):rowK n j s (some cs)=valK s (part n cs j):=rfl
@[simp] theorem arrK_harr(n q i j s lo z es):arrK n q i j s (some (.harr lo z es))=if lo≤q∧q≤es.length∧i<q then rowK n j s es[i]? else none:=by simp only[arrK];cases es[i]? <;>rfl
@[simp] theorem arrK_arr(n q i j s z es):arrK n q i j s (some (.arr z es))=if q=es.length then rowK n j s es[i]? else none:=by simp only[arrK];cases es[i]? <;>rfl
def loadK(n:Option Nat)(a:V)(s:Stk):Option (V×Stk):=match a with
 | .ep cs=>valK s (part n cs 0)
 | .ptr d l off=>cellK n off s (sget s d l)
 | .eptr d l q i j=>arrK n q i j s (sget s d l)
 |_=>none
@[simp] theorem loadK_ep(n cs s):loadK n (.ep cs) s=valK s (part n cs 0):=rfl
@[simp] theorem loadK_ptr(n d l off s):loadK n (.ptr d l off) s=cellK n off s (sget s d l):=rfl
@[simp] theorem loadK_eptr(n d l q i j s):loadK n (.eptr d l q i j) s=arrK n q i j s (sget s d l):=rfl
@[simp] theorem o_load(n a):op1 T (Run T) ⟨dst, .load n a,g,pre,hide⟩ e s=loadK n (a.ev e) s:=by
 rw[op1_other rfl]
 simp only[aop,loadK]
 cases a.ev e<;>try rfl
 ·dsimp only
  rename_i d l off
  cases h:sget s d l with
  |none=>rfl
  | some x => cases x <;> try rfl
              rename_i cs;simp only[cellK];cases part n cs off<;>rfl
 ·rename_i cs;dsimp only;cases part n cs 0<;>rfl
 ·dsimp only
  rename_i d l q i j
  cases h:sget s d l with
  |none=>rfl
  | some x => cases x <;> try rfl
              ·rename_i z es;simp only[arrK];split<;>try rfl
               cases es[i]? <;>try rfl
               rename_i cs;dsimp only;cases part n cs j<;>rfl
              ·rename_i lo z es;simp only[arrK];split<;>try rfl
               cases es[i]? <;>try rfl
               rename_i cs;dsimp only;cases part n cs j<;>rfl
def fitK(n off:Nat)(s:Stk)(d l:Nat)(v cs:List V):Option (V×Stk):=if v.length=n∧off+n≤cs.length∧V.oneAll v then some (.undef,sput s d l (.cell (setAll cs off v)))else none
@[simp] theorem fitK_eq(n off s d l v cs):fitK n off s d l v cs=if v.length=n∧off+n≤cs.length∧V.oneAll v=true then some (.undef,sput s d l (.cell (setAll cs off v))) else none:=rfl
def fitE(n j:Nat)(s:Stk)(d l i z:Nat)(v cs:List V)(es:List (List V)):Option (V×Stk):=if v.length=n∧j+n≤cs.length∧V.oneAll v then some (.undef,sput s d l (.arr z (es.set i (setAll cs j v))))else none
@[simp] theorem fitE_eq(n j s d l i z v cs es):fitE n j s d l i z v cs es=if v.length=n∧j+n≤cs.length∧V.oneAll v=true then some (.undef,sput s d l (.arr z (es.set i (setAll cs j v)))) else none:=rfl
def downK(d:Nat)(s:Stk)(v:V):Option V:=if d=dep s then some v else v.down d
@[simp] theorem downK_top(loc:Loc)(r:Stk)(v:V):downK r.length (loc::r) v=some v:=by simp[downK]
def stC(n d l off:Nat)(s:Stk)(v:Option V):Option Entry→Option (V×Stk)
 |some (.cell cs)=>match v with
   |some v=>fitK n off s d l v.cells cs
   |none=>none
 |_=>none
@[simp] theorem stC_cell(n d l off s v cs):stC n d l off s (some v) (some (.cell cs))=fitK n off s d l v.cells cs:=rfl
def stR(n d l i j z:Nat)(s:Stk)(v:V)(es:List (List V)):Option (List V)→Option (V×Stk)
 |some cs=>fitE n j s d l i z v.cells cs es
 |none=>none
@[simp] theorem stR_some(n d l i j z s v es cs):stR n d l i j z s v es (some cs)=fitE n j s d l i z v.cells cs es:=rfl
def stE(n d l q i j:Nat)(s:Stk)(v:Option V):Option Entry→Option (V×Stk)
 |some (.arr z es)=>if q=es.length then(match v with
   |some v=>stR n d l i j z s v es es[i]?
   |none=>none)else none
 |_=>none
@[simp] theorem stE_arr(n d l q i j s v z es):stE n d l q i j s (some v) (some (.arr z es))=if q=es.length then stR n d l i j z s v es es[i]? else none:=rfl
def storeK(n:Nat)(a v:V)(s:Stk):Option (V×Stk):=match a with
 | .ptr d l off=>stC n d l off s (downK d s v) (sget s d l)
 | .eptr d l q i j=>stE n d l q i j s (downK d s v) (sget s d l)
 |_=>none
@[simp] theorem storeK_ptr(n d l off v s):storeK n (.ptr d l off) v s=stC n d l off s (downK d s v) (sget s d l):=rfl
@[simp] theorem storeK_eptr(n d l q i j v s):storeK n (.eptr d l q i j) v s=stE n d l q i j s (downK d s v) (sget s d l):=rfl
@[simp] theorem o_store(n a v):op1 T (Run T) ⟨dst, .store n a v,g,pre,hide⟩ e s=storeK n (a.ev e) (v.ev e) s:=by
 rw[op1_other rfl]
 simp only[aop,storeK]
 cases a.ev e<;>try rfl
 ·dsimp only
  rename_i d l off
  cases h:sget s d l with
  |none=>rfl
  |some x=>
    cases x<;>try rfl
    rename_i cs
    simp only[stC,downK,fitK]
    by_cases hd:d=dep s
    ·simp only[hd,if_true]
     split<;>rfl
    ·simp only[hd,if_false]
     cases (v.ev e).down d with
     |none=>rfl
     |some u=>dsimp only;split<;>rfl
 ·dsimp only
  rename_i d l q i j
  cases h:sget s d l with
  |none=>rfl
  |some x=>
    cases x<;>try rfl
    rename_i z es
    simp only[stE,downK,stR]
    by_cases hqe:q=es.length
    case neg=>simp only[hqe,if_false];rfl
    simp only[hqe,if_true]
    cases hi:es[i]? with
    |none=>cases hq:(if d=dep s then some (v.ev e)else(v.ev e).down d)<;>rfl
    |some cs=>
      dsimp only
      cases hq:(if d=dep s then some (v.ev e)else(v.ev e).down d)with
      |none=>rfl
      |some u=>simp only[fitE];split<;>rfl
def nilckK(s:Stk):V→Option (V×Stk)
 | .ptr d l off=>some (.ptr d l off,s)
 | .ep cs=>some (.ep cs,s)
 | .fn f a b=>some (.fn f a b,s)
 | .yld d l=>some (.yld d l,s)
 | .eptr d l q i j=>if aliveE q (sget s d l)=true then some (.eptr d l q i j,s)else none
 |_=>none
@[simp] theorem nilckK_ptr(s d l o):nilckK s (.ptr d l o)=some (.ptr d l o,s):=rfl
@[simp] theorem nilckK_ep(s cs):nilckK s (.ep cs)=some (.ep cs,s):=rfl
@[simp] theorem nilckK_fn(s f a b):nilckK s (.fn f a b)=some (.fn f a b,s):=rfl
@[simp] theorem nilckK_yld(s d l):nilckK s (.yld d l)=some (.yld d l,s):=rfl
@[simp] theorem nilckK_eptr(s d l q i j):nilckK s (.eptr d l q i j)=if aliveE q (sget s d l)=true then some (.eptr d l q i j,s) else none:=rfl
@[simp] theorem o_nilck(x):op1 T (Run T) ⟨dst, .nilck x,g,pre,hide⟩ e s=nilckK s (x.ev e):=by
 rw[op1_other rfl];simp only[aop];cases x.ev e<;>try rfl
 simp only[nilckK];split<;>rfl
@[simp] theorem o_bin(op x y):op1 T (Run T) ⟨dst, .bin op x y,g,pre,hide⟩ e s=valK s (bin op (x.ev e) (y.ev e)):=by
 rw[op1_other rfl];simp only[aop];cases bin op (x.ev e) (y.ev e)<;>rfl
@[simp] theorem o_un(op x):op1 T (Run T) ⟨dst, .un op x,g,pre,hide⟩ e s=valK s (un op (x.ev e)):=by
 rw[op1_other rfl];simp only[aop];cases un op (x.ev e)<;>rfl
section
variable (k : IntKind) (a b : Int)
@[simp] theorem bin_add:bin .add (.int k a) (.int k b)=some (.int k (k.wrap (a+b))):=by simp[bin]
@[simp] theorem bin_sub:bin .sub (.int k a) (.int k b)=some (.int k (k.wrap (a-b))):=by simp[bin]
@[simp] theorem bin_mul:bin .mul (.int k a) (.int k b)=some (.int k (k.wrap (a*b))):=by simp[bin]
@[simp] theorem bin_quo:bin .quo (.int k a) (.int k b)=if b=0 then none else some (.int k (k.wrap (a.tdiv b))):=by simp[bin]
@[simp] theorem bin_rem:bin .rem (.int k a) (.int k b)=if b=0 then none else some (.int k (a.tmod b)):=by simp[bin]
@[simp] theorem bin_and:bin .and (.int k a) (.int k b)=some (.int k (k.wrap (BitVec.ofInt k.bits a&&&BitVec.ofInt k.bits b).toNat)):=by simp[bin]
@[simp] theorem bin_or:bin .or (.int k a) (.int k b)=some (.int k (k.wrap (BitVec.ofInt k.bits a|||BitVec.ofInt k.bits b).toNat)):=by simp[bin]
@[simp] theorem bin_xor:bin .xor (.int k a) (.int k b)=some (.int k (k.wrap (BitVec.ofInt k.bits a^^^BitVec.ofInt k.bits b).toNat)):=by simp[bin]
@[simp] theorem bin_andNot:bin .andNot (.int k a) (.int k b)=some (.int k (k.wrap (BitVec.ofInt k.bits a&&& ~~~BitVec.ofInt k.bits b).toNat)):=by simp[bin]
@[simp] theorem bin_eql:bin .eql (.int k a) (.int k b)=some (.bool (decide (a=b))):=by simp[bin];rfl
@[simp] theorem bin_neq:bin .neq (.int k a) (.int k b)=some (.bool (!decide (a=b))):=by simp[bin];rfl
@[simp] theorem bin_lss:bin .lss (.int k a) (.int k b)=some (.bool (decide (a<b))):=by simp[bin]
@[simp] theorem bin_leq:bin .leq (.int k a) (.int k b)=some (.bool (decide (a≤b))):=by simp[bin]
@[simp] theorem bin_gtr:bin .gtr (.int k a) (.int k b)=some (.bool (decide (b<a))):=by simp[bin]
@[simp] theorem bin_geq:bin .geq (.int k a) (.int k b)=some (.bool (decide (b≤a))):=by simp[bin]
@[simp] theorem bin_shl(k'):bin .shl (.int k a) (.int k' b)=if b<0 then none else some (.int k (k.wrap (a*2^min b.toNat k.bits))):=rfl
@[simp] theorem bin_shr(k'):bin .shr (.int k a) (.int k' b)=if b<0 then none else some (.int k (a.fdiv (2^min b.toNat k.bits))):=rfl
@[simp] theorem un_not(b:Bool):un .not (.bool b)=some (.bool !b):=rfl
@[simp] theorem un_neg:un .neg (.int k a)=some (.int k (k.wrap (0-a))):=rfl
@[simp] theorem un_xor:un .xor (.int k a)=some (.int k (k.wrap (BitVec.ofInt k.bits (if k.signed then -1 else k.max)^^^BitVec.ofInt k.bits a).toNat)):=rfl
end
def convK(k:IntKind)(s:Stk):V→Option (V×Stk)
 | .int _ n=>some (.int k (k.wrap n),s)
 |_=>none
@[simp] theorem convK_int(k s k' n):convK k s (.int k' n)=some (.int k (k.wrap n),s):=rfl
@[simp] theorem o_mkfn(f first cap):op1 T (Run T) ⟨dst, .mkfn f first cap,g,pre,hide⟩ e s=some (.fn f (opdAll e first) (opdAll e cap),s):=rfl
def sliceV(esz:Nat)(lo hi mx:Option V)(s:Stk):V→Option (V×Stk)
 | .sl c z es=>if z=esz∨es=[]then
  match hiOf hi es.length with
  |none=>none
  |some h=>match mxOf c mx h es.length with
    |none=>none
    |some c'=>match loOf lo h with
      |none=>none
      |some l=>some (.sl c' z ((es.take h).drop l),s)
  else none
 | .asl d k z q o len=>if aliveE q (sget s d k)=true∧z=esz∧mx.isNone=true then(match hiOf hi len with
  |none=>none
  |some h=>match loOf lo h with
    |none=>none
    |some l=>if l<h then some (.asl d k z q (o+l) (h-l),s)else none)else none
 |_=>none
@[simp] theorem sliceV_asl(esz lo hi mx s d k z q o len):sliceV esz lo hi mx s (.asl d k z q o len)=if aliveE q (sget s d k)=true∧z=esz∧mx.isNone=true then(match hiOf hi len with
 |none=>none
 |some h=>match loOf lo h with
   |none=>none
   |some l=>if l<h then some (.asl d k z q (o+l) (h-l),s)else none)else none:=rfl
@[simp] theorem sliceV_sl(esz lo hi mx s c z es):sliceV esz lo hi mx s (.sl c z es)=if z=esz∨es=[] then
 match hiOf hi es.length with
 |none=>none
 |some h=>match mxOf c mx h es.length with
   |none=>none
   |some c'=>match loOf lo h with
     |none=>none
     |some l=>some (.sl c' z ((es.take h).drop l),s)
 else none:=rfl
@[simp] theorem o_slice(esz x lo hi mx):op1 T (Run T) ⟨dst, .slice esz x lo hi mx,g,pre,hide⟩ e s=sliceV esz (lo.map (Opd.ev e)) (hi.map (Opd.ev e)) (mx.map (Opd.ev e)) s (x.ev e):=by
 rw[op1_other rfl]
 simp only[aop,sliceV]
 cases x.ev e<;>try rfl
 ·dsimp only
  split
  ·split
   ·rename_i h;simp only[h];rfl
   ·rename_i h;simp only[h]
    split
    ·rename_i h;simp only[h];rfl
    ·rename_i h;simp only[h]
     split
     ·rename_i h;simp only[h];rfl
     ·rename_i h;simp only[h];rfl
  ·rfl
 ·have hmx:(mx.map (Opd.ev e)).isNone=mx.isNone:=by cases mx<;>rfl
  dsimp only
  rw[hmx]
  split
  ·split
   ·rename_i h;simp only[h];rfl
   ·rename_i h;simp only[h]
    split
    ·rename_i h;simp only[h];rfl
    ·rename_i h;simp only[h];split<;>rfl
  ·rfl
attribute [simp] hiOf mxOf loOf
def faddrK(off:Nat)(s:Stk):V→Option (V×Stk)
 | .ptr d l o=>some (.ptr d l (o+off),s)
 | .ep cs=>some (.ep (cs.drop off),s)
 | .eptr d l q i j=>if aliveE q (sget s d l)=true then some (.eptr d l q i (j+off),s)else none
 |_=>none
@[simp] theorem faddrK_ptr(off s d l o):faddrK off s (.ptr d l o)=some (.ptr d l (o+off),s):=rfl
@[simp] theorem faddrK_ep(off s cs):faddrK off s (.ep cs)=some (.ep (cs.drop off),s):=rfl
@[simp] theorem faddrK_eptr(off s d l q i j):faddrK off s (.eptr d l q i j)=if aliveE q (sget s d l)=true then some (.eptr d l q i (j+off),s) else none:=rfl
@[simp] theorem o_faddr(off x):op1 T (Run T) ⟨dst, .faddr off x,g,pre,hide⟩ e s=faddrK off s (x.ev e):=by
 rw[op1_other rfl];simp only[aop];cases x.ev e<;>try rfl
 simp only[faddrK];split<;>rfl
def fieldK(n:Option Nat)(off:Nat)(s:Stk):V→Option (V×Stk)
 | .agg cs=>valK s (part n cs off)
 |_=>none
@[simp] theorem fieldK_agg(n off s cs):fieldK n off s (.agg cs)=valK s (part n cs off):=rfl
def epK(s:Stk):Option (List V)→Option (V×Stk)
 |some cs=>some (.ep cs,s)
 |none=>none
@[simp] theorem epK_some(s cs):epK s (some cs)=some (.ep cs,s):=rfl
def idxsK(esz:Nat)(s:Stk)(x i:V):Option (V×Stk):=match x,i with
 | .sl _ z es, .int _ n=>if 0≤n∧z=esz then epK s es[n.toNat]? else none
 | .asl d l z q o len, .int _ n=>if 0≤n∧n<len∧z=esz∧aliveE q (sget s d l)=true then some (.eptr d l q (o+n.toNat) 0,s)else none
 | .csl (.ptr d l o) len, .int _ n=>if 0≤n∧n<len∧esz=1 then some (.ptr d l (o+n.toNat),s)else none
 |_,_=>none
@[simp] theorem idxsK_csl(esz s d l o len k n):idxsK esz s (.csl (.ptr d l o) len) (.int k n)=if 0≤n∧n<len∧esz=1 then some (.ptr d l (o+n.toNat),s) else none:=rfl
@[simp] theorem idxsK_sl(esz s c z es k n):idxsK esz s (.sl c z es) (.int k n)=if 0≤n∧z=esz then epK s es[n.toNat]? else none:=rfl
@[simp] theorem idxsK_asl(esz s d l z q o len k n):idxsK esz s (.asl d l z q o len) (.int k n)=if 0≤n∧n<len∧z=esz∧aliveE q (sget s d l)=true then some (.eptr d l q (o+n.toNat) 0,s) else none:=rfl
@[simp] theorem o_idxs(esz x i):op1 T (Run T) ⟨dst, .idxs esz x i,g,pre,hide⟩ e s=idxsK esz s (x.ev e) (i.ev e):=by
 rw[op1_other rfl]
 simp only[aop,idxsK]
 cases x.ev e with
 |csl p m=>cases p<;>cases i.ev e<;>first|rfl|(dsimp only[V.idx];split<;>rfl)
 |sl c z es=>
   cases i.ev e<;>try rfl
   rename_i k n
   dsimp only[V.idx]
   split
   ·cases es[n.toNat]? <;>rfl
   ·rfl
 |asl d l z q o n=>cases i.ev e<;>first|rfl|(dsimp only[V.idx];split<;>rfl)
 |_=>cases i.ev e<;>rfl
def idxaK(len esz:Nat)(s:Stk)(x i:V):Option (V×Stk):=match x,i with
 | .ptr d l o, .int _ n=>if 0≤n∧n<len then some (.ptr d l (o+n.toNat*esz),s)else none
 | .ep cs, .int _ n=>if 0≤n∧n<len then some (.ep (cs.drop (n.toNat*esz)),s)else none
 | .eptr d l q k j, .int _ n=>if (0≤n∧n<len)∧aliveE q (sget s d l)=true then some (.eptr d l q k (j+n.toNat*esz),s)else none
 |_,_=>none
@[simp] theorem idxaK_ptr(len esz s d l o k n):idxaK len esz s (.ptr d l o) (.int k n)=if 0≤n∧n<len then some (.ptr d l (o+n.toNat*esz),s) else none:=rfl
@[simp] theorem idxaK_ep(len esz s cs k n):idxaK len esz s (.ep cs) (.int k n)=if 0≤n∧n<len then some (.ep (cs.drop (n.toNat*esz)),s) else none:=rfl
@[simp] theorem idxaK_eptr(len esz s d l q i j k n):idxaK len esz s (.eptr d l q i j) (.int k n)=if (0≤n∧n<len)∧aliveE q (sget s d l)=true then some (.eptr d l q i (j+n.toNat*esz),s) else none:=rfl
@[simp] theorem o_idxa(len esz x i):op1 T (Run T) ⟨dst, .idxa len esz x i,g,pre,hide⟩ e s=idxaK len esz s (x.ev e) (i.ev e):=by
 rw[op1_other rfl]
 simp only[aop,idxaK]
 cases x.ev e<;>cases i.ev e<;>try rfl
 all_goals (dsimp only[V.idx];split<;>rfl)
def idxvK(len esz:Nat)(n:Option Nat)(s:Stk)(x i:V):Option (V×Stk):=match x,i with
 | .agg cs, .int _ k=>if 0≤k∧k<len then valK s (part n cs (k.toNat*esz))else none
 |_,_=>none
@[simp] theorem idxvK_agg(len esz n s cs k m):idxvK len esz n s (.agg cs) (.int k m)=if 0≤m∧m<len then valK s (part n cs (m.toNat*esz)) else none:=rfl
def extK(i:Nat)(s:Stk):V→Option (V×Stk)
 | .tup vs=>valK s vs[i]?
 |_=>none
@[simp] theorem extK_tup(i s vs):extK i s (.tup vs)=valK s vs[i]? :=rfl
@[simp] theorem o_ext(x i):op1 T (Run T) ⟨dst, .ext x i,g,pre,hide⟩ e s=extK i s (x.ev e):=by
 rw[op1_other rfl];simp only[aop];cases x.ev e<;>try rfl
 rename_i vs;simp only[extK];cases vs[i]? <;>rfl
def lenK(s:Stk):V→Option (V×Stk)
 | .sl _ _ es=>some (i64 es.length,s)
 | .asl d l _ q _ n=>if aliveE q (sget s d l)=true then some (i64 n,s)else none
 | .csl _ n=>some (i64 n,s)
 |_=>none
@[simp] theorem lenK_csl(s p n):lenK s (.csl p n)=some (i64 n,s):=rfl
@[simp] theorem lenK_sl(s c z es):lenK s (.sl c z es)=some (i64 es.length,s):=rfl
@[simp] theorem lenK_asl(s d l z q o n):lenK s (.asl d l z q o n)=if aliveE q (sget s d l)=true then some (i64 n,s) else none:=rfl
@[simp] theorem o_len(x):op1 T (Run T) ⟨dst, .len x,g,pre,hide⟩ e s=lenK s (x.ev e):=by
 rw[op1_other rfl];simp only[aop];cases x.ev e<;>try rfl
 simp only[lenK];split<;>rfl
def mmK(mx:Bool)(s:Stk)(x y:V):Option (V×Stk):=match x,y with
 | .int k a, .int k' b=>if k=k' then some (.int k (if mx then(if b>a then b else a)else(if b<a then b else a)),s)else none
 |_,_=>none
@[simp] theorem mmK_max(s k a b):mmK true s (.int k a) (.int k b)=some (.int k (max a b),s):=by
 simp only[mmK,if_true,Option.some.injEq,Prod.mk.injEq,V.int.injEq,true_and,and_true];split<;>omega
@[simp] theorem mmK_min(s k a b):mmK false s (.int k a) (.int k b)=some (.int k (min a b),s):=by
 simp only[mmK,if_true,Option.some.injEq,Prod.mk.injEq,V.int.injEq,true_and,and_true,Bool.false_eq_true,if_false];split<;>omega
@[simp] theorem o_mm(mx x y):op1 T (Run T) ⟨dst, .mm mx x y,g,pre,hide⟩ e s=mmK mx s (x.ev e) (y.ev e):=by
 rw[op1_other rfl];simp only[aop,mmK];cases x.ev e<;>cases y.ev e<;>try rfl
 dsimp only;split<;>rfl
def mm3K(mx:Bool)(s:Stk)(x y z:V):Option (V×Stk):=match x,y,z with
 | .int k a, .int k' b, .int k'' c=>if k=k'∧k=k'' then
  some (.int k (if mx then(if c>(if b>a then b else a)then c else(if b>a then b else a))else(if c<(if b<a then b else a)then c else(if b<a then b else a))),s)else none
 |_,_,_=>none
@[simp] theorem mm3K_max(s k a b c):mm3K true s (.int k a) (.int k b) (.int k c)=some (.int k (max (max a b) c),s):=by
 simp only[mm3K,if_true,Option.some.injEq,Prod.mk.injEq,V.int.injEq,true_and,and_true,and_self];split<;>(try split)<;>omega
@[simp] theorem mm3K_min(s k a b c):mm3K false s (.int k a) (.int k b) (.int k c)=some (.int k (min (min a b) c),s):=by
 simp only[mm3K,if_true,Option.some.injEq,Prod.mk.injEq,V.int.injEq,true_and,and_true,and_self,Bool.false_eq_true,if_false];split<;>(try split)<;>omega
@[simp] theorem o_mm3(mx x y z):op1 T (Run T) ⟨dst, .mm3 mx x y z,g,pre,hide⟩ e s=mm3K mx s (x.ev e) (y.ev e) (z.ev e):=by
 rw[op1_other rfl];simp only[aop,mm3K];cases x.ev e<;>cases y.ev e<;>cases z.ev e<;>try rfl
 dsimp only;split<;>rfl
def eqaK(ks:List Bool)(neg:Bool)(s:Stk)(x y:V):Option (V×Stk):=match x,y with
 | .agg a, .agg b=>match eqCells ks a b with
   |some r=>some (.bool (if neg then !r else r),s)
   |none=>none
 |_,_=>none
def eqR(neg:Bool)(s:Stk):Option Bool→Option (V×Stk)
 |some r=>some (.bool (if neg then !r else r),s)
 |none=>none
@[simp] theorem eqR_some(neg s r):eqR neg s (some r)=some (.bool (if neg then !r else r),s):=rfl
@[simp] theorem eqaK_agg(ks neg s a b):eqaK ks neg s (.agg a) (.agg b)=eqR neg s (eqCells ks a b):=by simp only[eqaK,eqR]
@[simp] theorem eqCells_nil:eqCells [] [] []=some true:=rfl
def eqC(x:Bool):Option Bool→Option Bool
 |some y=>some (x&&y)
 |none=>none
@[simp] theorem eqC_some(x y):eqC x (some y)=some (x&&y):=rfl
@[simp] theorem eqCells_int(ks k a r b r'):eqCells (true::ks) (.int k a::r) (.int k b::r')=eqC (decide (a=b)) (eqCells ks r r'):=by
 simp only[eqCells,if_true];cases eqCells ks r r'<;>simp[eqC,beq_int]
@[simp] theorem eqCells_bool(ks a r b r'):eqCells (false::ks) (.bool a::r) (.bool b::r')=eqC (a==b) (eqCells ks r r'):=by
 simp only[eqCells];cases eqCells ks r r'<;>rfl
@[simp] theorem o_eqa(ks neg x y):op1 T (Run T) ⟨dst, .eqa ks neg x y,g,pre,hide⟩ e s=eqaK ks neg s (x.ev e) (y.ev e):=by
 rw[op1_other rfl];simp only[aop,eqaK];cases x.ev e<;>cases y.ev e<;>try rfl
 rename_i a b;dsimp only;cases eqCells ks a b<;>rfl
def eqbK(neg:Bool)(s:Stk)(x y:V):Option (V×Stk):=match x,y with
 | .bool a, .bool b=>some (.bool (if neg then !(a==b)else a==b),s)
 |_,_=>none
@[simp] theorem eqbK_bool(neg s a b):eqbK neg s (.bool a) (.bool b)=some (.bool (if neg then !(a==b) else a==b),s):=rfl
def isnilK(neg:Bool)(s:Stk):V→Option (V×Stk)
 | .sl _ _ es=>some (if es=[]then .anyb else .bool neg,s)
 | .asl d l _ q _ n=>if aliveE q (sget s d l)=true then some (if n=0 then .anyb else .bool neg,s)else none
 | .csl _ _=>some (.bool neg,s)
 |_=>none
@[simp] theorem isnilK_csl(neg s p n):isnilK neg s (.csl p n)=some (.bool neg,s):=rfl
@[simp] theorem isnilK_sl(neg s c z es):isnilK neg s (.sl c z es)=some (if es=[] then .anyb else .bool neg,s):=rfl
@[simp] theorem isnilK_asl(neg s d l z q o n):isnilK neg s (.asl d l z q o n)=if aliveE q (sget s d l)=true then some (if n=0 then .anyb else .bool neg,s) else none:=rfl
@[simp] theorem o_isnil(neg x):op1 T (Run T) ⟨dst, .isnil neg x,g,pre,hide⟩ e s=isnilK neg s (x.ev e):=by
 rw[op1_other rfl];simp only[aop,isnilK];cases x.ev e<;>try rfl
 rename_i d l z q o n
 by_cases h:aliveE q (sget s d l)=true
 ·simp only[h,if_true];rfl
 ·simp only[h];rfl
def clearE(z:List V)(d l sz q o n:Nat)(s:Stk):Option Entry→Option (V×Stk)
 |some (.arr z0 es)=>if q=es.length∧o+n≤es.length∧sz=z0∧z.length=z0∧V.pureAll z=true∧V.oneAll z=true then
  (if n=0 then some (.undef,s)else some (.undef,sput s d l (.arr z0 (es.take o ++List.replicate n z ++es.drop (o+n)))))else none
 |_=>none
@[simp] theorem clearE_arr(z d l sz q o n s z0 es):clearE z d l sz q o n s (some (.arr z0 es))=if q=es.length∧o+n≤es.length∧sz=z0∧z.length=z0∧V.pureAll z=true∧V.oneAll z=true then
 (if n=0 then some (.undef,s)else some (.undef,sput s d l (.arr z0 (es.take o ++List.replicate n z ++es.drop (o+n)))))else none:=rfl
def clearK(z:List V)(s:Stk):V→Option (V×Stk)
 | .sl _ _ es=>if es=[]then some (.undef,s)else none
 | .asl d l sz q o n=>clearE z d l sz q o n s (sget s d l)
 |_=>none
@[simp] theorem clearK_sl(z s c z' es):clearK z s (.sl c z' es)=if es=[] then some (.undef,s) else none:=rfl
@[simp] theorem clearK_asl(z s d l sz q o n):clearK z s (.asl d l sz q o n)=clearE z d l sz q o n s (sget s d l):=rfl
@[simp] theorem o_clear(z x):op1 T (Run T) ⟨dst, .clear z x,g,pre,hide⟩ e s=clearK z s (x.ev e):=by
 rw[op1_other rfl];simp only[aop,clearK];cases x.ev e<;>try rfl
 ·rename_i c z' es
  by_cases h:es=[]
  ·simp only[h,if_true];rfl
  ·simp only[h];rfl
 ·rename_i d l sz q o n
  dsimp only
  generalize sget s d l=y
  rcases y with _|y
  ·rfl
  ·cases y with
   |arr z0 es=>
     dsimp only[clearE]
     by_cases h:q=es.length∧o+n≤es.length∧sz=z0∧z.length=z0∧V.pureAll z=true∧V.oneAll z=true
     ·rw[if_pos h,if_pos h]
      by_cases h0:n=0
      ·rw[if_pos h0,if_pos h0];rfl
      ·rw[if_neg h0,if_neg h0];rfl
     ·rw[if_neg h,if_neg h];rfl
   |_=>rfl
def slarrK(n:Nat)(hi:Option V)(s:Stk):V→Option (V×Stk)
 | .ptr d l o=>match hiOf hi n with
   |some h=>some (.csl (.ptr d l o) h,s)
   |none=>none
 |_=>none
@[simp] theorem slarrK_ptr(n hi s d l o):slarrK n hi s (.ptr d l o)=(hiOf hi n).map fun h=>(.csl (.ptr d l o) h,s):=by
 simp only[slarrK];cases hiOf hi n<;>rfl
@[simp] theorem o_slarr(n x hi):op1 T (Run T) ⟨dst, .slarr n x hi,g,pre,hide⟩ e s=slarrK n (hi.map (Opd.ev e)) s (x.ev e):=by
 rw[op1_other rfl];simp only[aop,slarrK];cases x.ev e<;>try rfl
 dsimp only
 cases hiOf (hi.map (Opd.ev e)) n<;>rfl
def strixK(bs:List Nat)(s:Stk):V→Option (V×Stk)
 | .int _ n=>if 0≤n then(match bs[n.toNat]? with
  |some b=>some (.int .u8 b,s)
  |none=>none)else none
 |_=>none
@[simp] theorem strixK_int(bs s k n):strixK bs s (.int k n)=if 0≤n then(match bs[n.toNat]? with
 |some b=>some (.int .u8 b,s)
 |none=>none)else none:=rfl
def appK(esz bytes lab:Nat)(s:Stk)(x y:V):Option (V×Stk):=effK s (match x,y with
 | .sl c z es, .sl _ z' fs=>
   if (es.length+fs.length)*bytes≤140737488355328∧es.length+fs.length<140737488355328∧(z=esz∨es=[])∧(z'=esz∨fs=[])then
    match c with
    | .no=>if fs=[]then some (.sl .no z es,none)else none
    | .full=>if fs=[]then some (.sl .full z es,none)else
      if (sget s (dep s) lab).isNone∧s≠[]then some (.sl (.own (dep s) lab) esz (es ++fs),some (dep s,lab, .tok (es.length+fs.length)))else none
    | .own d l=>match sget s d l with
      |some (.tok n)=>if n=es.length∧z=esz then some (.sl (.own d l) esz (es ++fs),some (d,l, .tok (es.length+fs.length)))else none
      |_=>none
   else none
 | .asl d l z q o k, .sl _ z' fs=>match sget s d l with
   |some (.arr z0 es)=>if (es.length+fs.length)*bytes≤140737488355328∧es.length+fs.length<140737488355328∧q=es.length∧o=0∧k=q∧z=esz∧z0=esz∧(z'=esz∨fs=[])then
    (if fs=[]then some (.asl d l z q 0 k,none)else some (.asl d l esz (es.length+fs.length) 0 (es.length+fs.length),some (d,l, .arr esz (es ++fs))))else none
   |some (.harr lo z0 es)=>if (es.length+fs.length)*bytes≤140737488355328∧es.length+fs.length<140737488355328∧q=es.length∧o=0∧k=q∧z=esz∧z0=esz∧z'=esz∧fs≠[]∧d=dep s then
    some (.asl d l esz (es.length+fs.length) 0 (es.length+fs.length),some (d,l, .harr lo esz (es ++fs)))else none
   |_=>none
 | .asl d l z q o k, .asl d2 l2 z2 q2 o2 k2=>match sget s d l,sget s d2 l2 with
   |some (.arr z0 es),some (.arr z3 gs)=>if (es.length+k2)*bytes≤140737488355328∧es.length+k2<140737488355328∧q=es.length∧o=0∧k=q∧z=esz∧z0=esz∧z2=esz∧z3=esz∧
    q2=gs.length∧o2+k2≤gs.length∧k2≠0∧d=dep s∧d2=dep s∧l≠l2∧(gs.all V.oneAll)=true then
    some (.asl d l esz (es.length+k2) 0 (es.length+k2),some (d,l, .arr esz (es ++(gs.drop o2).take k2)))else none
   |_,_=>none
 |_,_=>none)
@[simp] theorem o_app(d esz bytes x y):op1 T (Run T) ⟨some d, .app esz bytes x y,g,pre,hide⟩ e s=appK esz bytes (16*d) s (x.ev e) (y.ev e):=by
 rw[op1_other rfl];rfl
theorem appK_full(esz bytes lab loc r z es c' z' fs)(h1:(es.length+fs.length)*bytes≤140737488355328)(h2:es.length+fs.length<140737488355328)(h3:z=esz∨es=[])(h4:z'=esz∨fs=[])(h5:fs≠[])(h6:Loc.get loc lab=none):
 appK esz bytes lab (loc::r) (.sl .full z es) (.sl c' z' fs)=some (.sl (.own r.length lab) esz (es ++fs),loc.put lab (.tok (es.length+fs.length))::r):=by
 simp[appK,h1,h2,h3,h4.resolve_right h5,h5,h6]
theorem appK_full_nil(esz bytes lab s z es c' z')(h1:es.length*bytes≤140737488355328)(h2:es.length<140737488355328)(h3:z=esz∨es=[]):appK esz bytes lab s (.sl .full z es) (.sl c' z' [])=some (.sl .full z es,s):=by
 simp[appK,h1,h2,h3]
theorem appK_own(esz bytes lab loc)(r:Stk)(l es c' z' fs)(h1:(es.length+fs.length)*bytes≤140737488355328)(h2:es.length+fs.length<140737488355328)(h4:z'=esz∨fs=[])(h6:Loc.get loc l=some (.tok es.length)):
 appK esz bytes lab (loc::r) (.sl (.own r.length l) esz es) (.sl c' z' fs)=some (.sl (.own r.length l) esz (es ++fs),loc.put l (.tok (es.length+fs.length))::r):=by
 simp[appK,h1,h2,h4,h6]
def mkslK(z:List V)(bytes lab:Nat)(s:Stk)(l c:V):Option (V×Stk):=match l,c with
 | .int _ n, .int _ k=>if 0≤n∧k=n∧n<140737488355328∧n*bytes≤140737488355328∧(sget s (dep s) lab).isNone∧s≠[]then
  some (.asl (dep s) lab z.length n.toNat 0 n.toNat,sput s (dep s) lab (.arr z.length (List.replicate n.toNat z)))else none
 |_,_=>none
@[simp] theorem o_mksl(d z bytes l c):op1 T (Run T) ⟨some d, .mksl z bytes l c,g,pre,hide⟩ e s=mkslK z bytes (16*d) s (l.ev e) (c.ev e):=by
 rw[op1_other rfl];simp only[aop,mkslK,Option.getD_some];cases l.ev e<;>cases c.ev e<;>try rfl
 dsimp only[V.idx];split<;>rfl
@[simp] theorem mkslK_cons(z bytes lab loc)(r:Stk)(k n k' m):mkslK z bytes lab (loc::r) (.int k n) (.int k' m)=if 0≤n∧m=n∧n<140737488355328∧n*bytes≤140737488355328∧(Loc.get loc lab).isNone then
 some (.asl r.length lab z.length n.toNat 0 n.toNat,loc.put lab (.arr z.length (List.replicate n.toNat z))::r)else none:=by simp[mkslK]
@[simp] theorem o_mkslD(d z bytes l c):op1 T (Run T) ⟨some d, .mkslD z bytes l c,g,pre,hide⟩ e s=mkslK z bytes (freshL s 9 (16*d)) s (l.ev e) (c.ev e):=by
 rw[op1_other rfl];simp only[aop,mkslK,Option.getD_some];cases l.ev e<;>cases c.ev e<;>try rfl
 rename_i k n k' m
 dsimp only[V.idx]
 split<;>rfl
@[simp] theorem freshL_cons(loc:Loc)(r:Stk)(n l):freshL (loc::r) (n+1) l=if (loc.get l).isNone then l else freshL (loc::r) n (l+1000):=by
 simp[freshL]
def litmK(sz lab n:Nat)(s:Stk)(z:List V):Option (List (List V))→Option (V×Stk)
 |some es=>if V.oneAll z=true∧(sget s (dep s) lab).isNone∧s≠[]∧0<n then some (.asl (dep s) lab sz n 0 n,sput s (dep s) lab (.arr sz es))else none
 |none=>none
@[simp] theorem o_litm(d z n ps):op1 T (Run T) ⟨some d, .litm z n ps,g,pre,hide⟩ e s=litmK z.length (16*d) n s z (litAllM e z.length ps (List.replicate n z)):=by
 rw[op1_other rfl];simp only[aop,litmK,Option.getD_some]
 cases litAllM e z.length ps (List.replicate n z)with
 |none=>split<;>rfl
 |some es=>split<;>rfl
@[simp] theorem litmK_some(sz lab n z es loc)(r:Stk):litmK sz lab n (loc::r) z (some es)=if V.oneAll z=true∧(loc.get lab).isNone∧0<n then some (.asl r.length lab sz n 0 n,loc.put lab (.arr sz es)::r) else none:=by
 simp[litmK]
@[simp] theorem litAllM_nil(e size es):litAllM e size [] es=some es:=rfl
@[simp] theorem litAllM_cons(e size i x r es):litAllM e size ((i,x)::r) es=if ((x.ev e).cells.length=size&&V.oneAll (x.ev e).cells&&i<es.length)=true then litAllM e size r (es.set i (x.ev e).cells) else none:=rfl
def appmK(esz bytes lab:Nat)(s:Stk)(x y:V):Option (V×Stk):=effK s (match x with
 | .sl .full z []=>match (match y with
  | .sl _ z' fs=>if z'=esz∨fs=[]then some fs else none
  | .asl d l z' q o n=>match sget s d l with
    |some (.arr _ fs)=>if z'=esz∧q=fs.length∧o+n≤fs.length then some (((fs.map V.stripAll).drop o).take n)else none
    |_=>none
  | .csl (.ptr d l o) n=>match sget s d l with
    |some (.cell cs)=>if esz=1∧o+n≤cs.length then some (((cs.drop o).take n).map fun v=>[v])else none
    |_=>none
  |_=>none)with
   |some fs=>if fs.length*bytes≤140737488355328∧fs.length<140737488355328∧(z=esz∨fs=[])∧(sget s (dep s) lab).isNone∧s≠[]then
    some (.asl (dep s) lab esz fs.length 0 fs.length,some (dep s,lab, .arr esz fs))else none
   |none=>none
 |_=>none)
@[simp] theorem o_appm(d esz bytes x y):op1 T (Run T) ⟨some d, .appm esz bytes x y,g,pre,hide⟩ e s=appmK esz bytes (16*d) s (x.ev e) (y.ev e):=by
 rw[op1_other rfl];rfl
theorem appmK_sl(esz bytes lab loc)(r:Stk)(z c' z' fs)(h1:fs.length*bytes≤140737488355328)(h2:fs.length<140737488355328)(h3:z=esz∨fs=[])(h4:z'=esz∨fs=[])(h6:Loc.get loc lab=none):
 appmK esz bytes lab (loc::r) (.sl .full z []) (.sl c' z' fs)=some (.asl r.length lab esz fs.length 0 fs.length,loc.put lab (.arr esz fs)::r):=by
 simp[appmK,h1,h2,h3,h4,h6]
end
end
end Go.Ab

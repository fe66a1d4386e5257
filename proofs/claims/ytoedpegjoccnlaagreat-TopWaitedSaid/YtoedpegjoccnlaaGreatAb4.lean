/-
  'op_sound': what the evaluator says of an operation (but a call of a function), the model does.
-/
import Derived.Test.YtoedpegjoccnlaaGreatAb3
import Derived.LoopNIn
import Derived.RangeFuncLeaves
set_option linter.unusedSimpArgs false
set_option linter.unusedVariables false
namespace Go.Ab
section
variable {K : KK} {P : Program} {s : Stk} {w : World} {γ : G} {e : Env} {a : Act}
theorem opdO_ok(hE:ER s.length w γ e a) {x:Option Operand} {y:Option Opd}(h:copdO x=some y):OR s.length w γ (y.map (Opd.ev e)) (x.map a.eval)∧y.isSome=x.isSome:=by
 cases x with
 |none=>simp[copdO]at h;subst h;exact⟨.inl ⟨rfl,rfl⟩,rfl⟩
 |some x=>
   simp only[copdO]at h
   obtain⟨z,hz,rfl⟩:=Option.map_eq_some_iff.1 h
   exact⟨.inr ⟨_,_,rfl,rfl,hE.opd hz⟩,rfl⟩
theorem lr_eval(xs:Array Operand):(xs.map a.eval)=(xs.toList.map a.eval).toArray:=by
 apply Array.ext';simp
theorem copds_cons {xs:List Operand} {x:Opd} {r:List Opd}(h:copds xs=some (x::r)): ∃p q,xs=p::q∧copd p=some x∧copds q=some r:=by
 cases xs with
 |nil=>simp[copds]at h
 |cons p q=>
   simp only[copds]at h
   split at h
   ·rename_i a b h1 h2
    cases h
    exact⟨p,q,rfl,h1,h2⟩
   ·cases h
theorem copds_nil {xs:List Operand}(h:copds xs=some []):xs=[]:=by
 cases xs with
 |nil=>rfl
 |cons p q=>
   simp only[copds]at h
   split at h<;>cases h
theorem copds_three {xs:List Operand} {x y z:Opd}(h:copds xs=some [x,y,z]): ∃p q r,xs=[p,q,r]∧copd p=some x∧copd q=some y∧copd r=some z:=by
 obtain⟨p,l,rfl,h1,h⟩:=copds_cons h
 obtain⟨q,l,rfl,h2,h⟩:=copds_cons h
 obtain⟨r,l,rfl,h3,h⟩:=copds_cons h
 obtain rfl:=copds_nil h
 exact⟨p,q,r,rfl,h1,h2,h3⟩
theorem copds_two {xs:List Operand} {x y:Opd}(h:copds xs=some [x,y]): ∃p q,xs=[p,q]∧copd p=some x∧copd q=some y:=by
 match xs,h with
 |[],h=>simp[copds]at h
 |[p],h=>
   simp only[copds]at h
   split at h
   ·rename_i a b h1 h2;simp at h2;subst h2;cases h
   ·cases h
 |p::q::r,h=>
   simp only[copds]at h
   split at h
   ·rename_i a b h1 h2
    cases h
    split at h2
    ·rename_i c d h3 h4
     cases h2
     cases r with
     |nil=>exact⟨p,q,rfl,h1,h3⟩
     |cons z r=>
       simp only[copds]at h4
       split at h4<;>cases h4
    ·cases h2
   ·cases h
theorem nil_const {y:Operand}(h:copd y=some (.c (.sl .full 0 []))):y= .const (.slice none 0 0):=by
 cases y with
 |const v=>
   simp only[copd]at h
   obtain⟨v',h1,h2⟩:=Option.map_eq_some_iff.1 h
   cases h2
   cases v with
   |agg cs=>
     simp only[cv]at h1
     obtain⟨l,_,h3⟩:=Option.map_eq_some_iff.1 h1
     cases h3
   |_=>
     simp only[cv]at h1
     unfold cvs at h1
     split at h1<;>first|(cases h1;done)|(rename_i he;cases he;rfl)|(rename_i he;first|(cases he;cases h1;done)|simp_all)
 |tmp t=>simp[copd]at h
 |func f=>simp[copd]at h
 |global g=>simp[copd]at h
theorem run_equalIn_nil(w:World)(d:Nat)(t:TypeId) {el:TypeId}(ht:P.underlying t=some (.slice el))(base:Option Addr)(n c:Nat):(Op.equalIn (d+1) t (.slice base n c) (.slice none 0 0)).run P w= .ok base.isNone w:=by
 cases base<;>simp[Op.equalIn,run_underlying ht]
theorem isnil_base(hS:SR K s w γ) {x:V} {u:Value}(h:VR s.length w γ x u) {neg:Bool} {v:V} {f:Eff} {e:Env} {lab:Nat} {o:Opd}(ho:o.ev e=x)(hv:aop (.isnil neg o) lab e s=some (v,f)):
 ∃base n c,u= .slice base n c∧f=none∧VR s.length w γ v (.bool (if neg then !base.isNone else base.isNone)):=by
 simp only[aop,ho]at hv
 split at hv
 ·rename_i c z es
  cases hv
  rcases h.sl_inv with ⟨base,cap,rfl,rfl,_⟩|⟨b,off,cap,us,rfl,_⟩
  ·exact⟨base,0,cap,rfl,rfl,by simpa using VR.anyb _⟩
  ·refine⟨_,_,_,rfl,rfl,?_⟩
   split
   ·exact .anyb _
   ·cases neg<;>exact .bool _
 ·rename_i d l z q o' n
  split at hv
  ·rename_i hal
   cases hv
   obtain⟨hd,⟨base,rfl,rfl,rfl,rfl,_⟩|⟨b,c,rfl,_⟩⟩:=alive_asl hS h hal
   ·exact⟨base,0,0,rfl,rfl,by simpa using VR.anyb _⟩
   ·refine⟨_,_,_,rfl,rfl,?_⟩
    split
    ·exact .anyb _
    ·cases neg<;>exact .bool _
  ·cases hv
 ·cases hv
  cases h with
  |csl _ n cap a hle _=>exact⟨_,_,_,rfl,rfl,by cases neg<;>exact .bool _⟩
 ·cases hv
theorem op_sound(hS:SR K s w γ)(hE:ER s.length w γ e a)(hs:s≠[]) {o:Oper} {ao:AOp}(h:compOp P o=some ao) {lab:Nat} {v:V} {f:Eff}(hv:aop ao lab e s=some (v,f)):
 OpOk K s w γ ((execOp a.eval o).run P w) v f:=by
 cases hop:o.op with
 |move x=>
   simp only[compOp,hop]at h
   obtain⟨y,hy,rfl⟩:=Option.map_eq_some_iff.1 h
   simp only[aop]at hv;cases hv
   simp only[execOp,hop,Sem.run_pure]
   exact OpOk.val hS (hE.opdT hy)
 |assign x=>
   simp only[compOp,hop]at h
   obtain⟨y,hy,rfl⟩:=Option.map_eq_some_iff.1 h
   simp only[aop]at hv;cases hv
   simp only[execOp,hop,Sem.run_pure]
   exact OpOk.val hS (hE.opdT hy)
 |pick c x y=>
   simp only[compOp,hop]at h
   split at h
   ·rename_i c' x' y' h1 h2 h3
    cases h
    simp only[aop]at hv
    have hc:=hE.opd h1
    split at hv
    ·rename_i hb;rw[hb]at hc
     cases hv
     simp only[execOp,hop,hc.bool_inv,asBool,Sem.run_bind,Sem.run_pure,Result.andThen_ok,if_true]
     exact OpOk.val hS (hE.opd h2)
    ·rename_i hb;rw[hb]at hc
     cases hv
     simp only[execOp,hop,hc.bool_inv,asBool,Sem.run_bind,Sem.run_pure,Result.andThen_ok,Bool.false_eq_true,if_false]
     exact OpOk.val hS (hE.opd h3)
    ·cases hv
   ·cases h
 |alloc t=>
   simp only[compOp,hop]at h
   obtain⟨z,hz,rfl⟩:=Option.map_eq_some_iff.1 h
   simp only[aop]at hv
   split at hv
   ·rename_i hc
    cases hv
    obtain⟨i,zv,hi,hz',hl,hrun⟩:=zeroT_ok hz s.length w γ
    have:=alloc_ok (K:=K) hS hc.2 (lab:=lab) (by simpa using hc.1) hl t
    simpa [execOp,hop,Instr.alloc,hrun,newVar,newRow]using this
   ·cases hv
 |box t x=>
   simp only[compOp,hop]at h
   obtain⟨y,hy,rfl⟩:=Option.map_eq_some_iff.1 h
   simp only[aop]at hv
   split at hv
   ·rename_i hc
    cases hv
    have:=alloc_ok (K:=K) hS hc.2.2 (lab:=lab) (by simpa using hc.2.1) ((hE.opdT hy).cells hc.1) t
    simpa [execOp,hop,Instr.box,newVar,newRow]using this
   ·cases hv
 |build t ps=>
   simp only[compOp,hop]at h
   simp only[execOp,hop]
   exact build_ok hS hE h hv
 |buildSlice t len ps=>
   simp only[compOp,hop]at h
   simp only[execOp,hop]
   exact lit_ok hS hE h hv
 |load t x=>
   simp only[compOp,hop]at h
   split at h
   ·rename_i n y hn hy
    cases h
    simp only[execOp,hop]
    exact load_sound hS hn hv (hE.opd hy)
   ·cases h
 |store t x y=>
   simp only[compOp,hop]at h
   split at h
   ·rename_i n x' y' hn hx hy
    cases h
    simp only[execOp,hop]
    exact store_sound hS hs hn hv (hE.opd hx) (hE.opdT hy)
   ·cases h
 |nilCheck x=>
   simp only[compOp,hop]at h
   obtain⟨y,hy,rfl⟩:=Option.map_eq_some_iff.1 h
   simp only[aop]at hv
   have hx:=hE.opd hy
   simp only[execOp,hop]
   generalize y.ev e=z at hx hv
   generalize a.eval x=u at hx⊢
   cases z<;>simp only[reduceCtorEq]at hv
   ·cases hv
    cases hx with
    |ptr _ _ _ b hd hb=>exact OpOk.val hS (.ptr _ _ _ b hd hb)
   ·cases hv
    have hx':=hx
    cases hx with
    |ep _ b off _ _ _ _=>exact OpOk.val hS hx'
   ·cases hv
    have hx':=hx
    cases hx with
    |fn _ _ _ us ws _ _ _ _=>exact OpOk.val hS hx'
   ·cases hv
    cases hx with
    |yld _ _ b hd hb=>exact OpOk.val hS (.yld _ _ b hd hb)
   ·split at hv
    ·rename_i ha
     cases hv
     obtain⟨b,z',rfl,hb,hd⟩:=alive_eptr hS hx ha
     exact OpOk.val hS (hb _)
    ·cases hv
 |binOp op t x y t2=>
   simp only[compOp,hop]at h
   split at h
   ·rename_i x' y' hx hy
    have ux:=hE.opd hx
    have uy:=hE.opd hy
    simp only[execOp,hop]
    have eqa: ∀(ks:List Bool) (neg:Bool),plainT P t=some ks→(∃fs,P.underlying t=some (.struct fs))→(op=if neg then .neq else .eql)→aop (.eqa ks neg x' y') lab e s=some (v,f)→
     OpOk K s w γ ((do pure (Next.value (←(do eqGuard op t x y (a.eval x) (a.eval y);Go.binOp op t (a.eval x) (a.eval y)))):Sem Next).run P w) v f:=by
     intro ks neg hk hfs hop' hv
     simp only[aop]at hv
     split at hv
     ·rename_i xs ys h1 h2
      obtain⟨r,hr,hv⟩:=Option.map_eq_some_iff.1 hv
      cases hv
      rw[h1]at ux;rw[h2]at uy
      have:=eqa_ok (P:=P) hk hfs ux uy hr op (by rw[hop'];cases neg<;>simp) x y
      refine OpOk.of_run hS this ?_
      rw[hop']
      cases neg<;>exact .bool _
     ·cases hv
    have eqb: ∀(neg:Bool),P.underlying t=some .bool→(op=if neg then .neq else .eql)→aop (.eqb neg x' y') lab e s=some (v,f)→
     OpOk K s w γ ((do pure (Next.value (←(do eqGuard op t x y (a.eval x) (a.eval y);Go.binOp op t (a.eval x) (a.eval y)))):Sem Next).run P w) v f:=by
     intro neg hk hop' hv
     simp only[aop]at hv
     split at hv
     ·rename_i p q h1 h2
      cases hv
      rw[h1]at ux;rw[h2]at uy
      rw[ux.bool_inv,uy.bool_inv,hop']
      cases neg
      ·refine OpOk.of_run hS (u:= .bool (p==q)) ?_ (.bool _)
       simp[eqGuard,Go.binOp,Op.equal,Op.maxDepth,run_equalIn_bool' w _ t p q hk]
      ·refine OpOk.of_run hS (u:= .bool (!(p==q))) ?_ (.bool _)
       simp[eqGuard,Go.binOp,Op.equal,Op.maxDepth,run_equalIn_bool' w _ t p q hk]
     ·cases hv
    have ints:aop (.bin op x' y') lab e s=some (v,f)→
     OpOk K s w γ ((do pure (Next.value (←(do eqGuard op t x y (a.eval x) (a.eval y);Go.binOp op t (a.eval x) (a.eval y)))):Sem Next).run P w) v f:=by
     intro hv
     simp only[aop]at hv
     obtain⟨v',h1,hv⟩:=Option.map_eq_some_iff.1 hv
     cases hv
     obtain⟨u,h2,h3⟩:=bin_run (P:=P) (t:=t) ux uy h1 x y
     exact OpOk.of_run hS h2 h3
    split at h
    ·rename_i fs hu
     obtain⟨ks,hk,rfl⟩:=Option.map_eq_some_iff.1 h
     exact eqa ks false hk ⟨fs,hu⟩ rfl hv
    ·rename_i fs hu
     obtain⟨ks,hk,rfl⟩:=Option.map_eq_some_iff.1 h
     exact eqa ks true hk ⟨fs,hu⟩ rfl hv
    ·cases h;exact ints hv
    ·rename_i el hu
     split at h
     ·cases h
      obtain⟨base,n,c,h1,rfl,h2⟩:=isnil_base hS ux rfl hv
      have hev:a.eval (.const (.slice none 0 0))= .slice none 0 0:=rfl
      rw[nil_const hy,h1,hev]
      refine OpOk.of_run hS ?_ h2
      simp[eqGuard,Go.binOp,Op.equal,Op.maxDepth,run_equalIn_nil w _ t hu]
     ·cases h
    ·rename_i el hu
     split at h
     ·cases h
      obtain⟨base,n,c,h1,rfl,h2⟩:=isnil_base hS ux rfl hv
      have hev:a.eval (.const (.slice none 0 0))= .slice none 0 0:=rfl
      rw[nil_const hy,h1,hev]
      refine OpOk.of_run hS ?_ h2
      simp[eqGuard,Go.binOp,Op.equal,Op.maxDepth,run_equalIn_nil w _ t hu]
     ·cases h
    ·rename_i hu
     cases h
     exact eqb false hu rfl hv
    ·rename_i hu
     cases h
     exact eqb true hu rfl hv
    ·cases h
   ·cases h
 |unOp op t x=>
   simp only[compOp,hop]at h
   obtain⟨y,hy,rfl⟩:=Option.map_eq_some_iff.1 h
   simp only[aop]at hv
   obtain⟨v',h1,hv⟩:=Option.map_eq_some_iff.1 hv
   cases hv
   obtain⟨u,h2,h3⟩:=un_run (P:=P) (hE.opd hy) h1
   simp only[execOp,hop]
   exact OpOk.of_run hS h2 h3
 |convert src dst x=>
   simp only[compOp,hop]at h
   split at h
   ·rename_i k1 k2 y h1 h2 hy
    cases h
    simp only[aop]at hv
    have hx:=hE.opd hy
    split at hv
    ·rename_i k n he
     cases hv
     rw[he]at hx
     simp only[execOp,hop,hx.int_inv]
     refine OpOk.of_run hS (u:= .int k2 (k2.wrap n)) ?_ (.int _ _)
     simp[convert,run_underlying h1,run_underlying h2,Conv.intToInt]
    ·cases hv
   ·cases h
 |makeFunc fn first cap=>
   cases fn with
   |func g=>
     simp only[compOp,hop]at h
     split at h
     ·rename_i x y hx hy
      cases h
      simp only[aop]at hv;cases hv
      simp only[execOp,hop]
      refine OpOk.of_run hS (u:= .func (.func g) (first.map a.eval) (cap.map a.eval)) rfl ?_
      rw[lr_eval first,lr_eval cap]
      exact VR.fn_mk (hE.opds hx) (hE.opds hy)
     ·cases h
   |_=>simp[compOp,hop]at h
 |slice t x lo hi mx=>
   simp only[compOp,hop]at h
   split at h
   ·rename_i el ht
    split at h
    ·rename_i x' lo' hi' mx' z hx hlo hhi hmx hz
     split at h
     ·cases h
     ·rename_i hnb
      cases h
      simp only[aop]at hv
      split at hv
      ·rename_i c z1 es he
       split at hv
       ·rename_i hzc
        split at hv
        ·cases hv
        ·rename_i h' h1
         split at hv
         ·cases hv
         ·rename_i c' h2
          split at hv
          ·cases hv
          ·rename_i l' h3
           cases hv
           have ux:=hE.opd hx
           rw[he]at ux
           simp only[execOp,hop]
           refine slice_sound hS ht hz ux (opdO_ok hE hlo).1 (opdO_ok hE hhi).1 (opdO_ok hE hmx).1 hzc h1 h2 h3 ?_
           intro hm
           have e1:=(opdO_ok hE hhi).2
           have e2:=(opdO_ok hE hmx).2
           cases mx'<;>cases hi'<;>simp_all
       ·cases hv
      ·rename_i d k z1 q o len he
       split at hv
       ·rename_i hc
        obtain⟨ha,rfl,hmn⟩:=hc
        split at hv
        ·cases hv
        ·rename_i h' h1
         split at hv
         ·cases hv
         ·rename_i l' h3
          split at hv
          ·rename_i hlt
           cases hv
           have ux:=hE.opd hx
           rw[he]at ux
           simp only[execOp,hop]
           refine aslice_sound hS ht hz ux ha (opdO_ok hE hlo).1 (opdO_ok hE hhi).1 ?_ h1 h3 hlt
           have e2:=(opdO_ok hE hmx).2
           cases mx'<;>simp_all
          ·cases hv
       ·cases hv
      ·cases hv
    ·cases h
   ·rename_i len el ht
    split at h
    ·rename_i x' hi' hx hhi hz
     split at h
     ·cases h
     ·rename_i hnb
      cases h
      simp only[Bool.or_eq_true,decide_eq_true_eq,not_or,Bool.not_eq_true,Option.isSome_eq_false_iff,Option.isNone_iff_eq_none]at hnb
      obtain⟨⟨rfl,rfl⟩,hn0⟩:=hnb
      simp only[aop]at hv
      split at hv
      ·rename_i d l off he
       split at hv
       ·rename_i h' h1
        cases hv
        have ux:=hE.opd hx
        rw[he]at ux
        generalize hux:a.eval x=u at ux
        have hho:=(opdO_ok hE hhi).1
        have bh:h'≤len∧((hi.map a.eval=none∧h'=len)∨ ∃k,hi.map a.eval=some (.int k h')):=by
         rcases hho with ⟨e1,e2⟩|⟨x,y,e1,e2,hv⟩
         ·rw[e1]at h1;simp[hiOf]at h1;subst h1;exact⟨Nat.le_refl _, .inl ⟨e2,rfl⟩⟩
         ·rw[e1]at h1
          simp only[hiOf]at h1
          split at h1
          ·rename_i n hn
           split at h1
           ·rename_i hc
            cases h1
            obtain⟨k,rfl⟩:=idx_inv hv hn
            exact⟨by omega, .inr ⟨k,by rw[e2,Int.toNat_of_nonneg hc.1]⟩⟩
           ·cases h1
          ·cases h1
        cases ux with
        |ptr _ _ _ b hd hb=>
          simp only[execOp,hop,hux]
          refine OpOk.of_run hS (u:= .slice (some ⟨b,off,none⟩) h' len) ?_ (.csl _ h' len _ bh.1 (.ptr d l off b hd hb))
          have hz0:(sizeOf el).run P w= .ok 1 w:=run_sizeOf' hz w
          have hle:(h':Int)≤(len:Int):=by omega
          rcases bh.2 with ⟨e1,rfl⟩|⟨k,e1⟩
          ·simp[Instr.sliceAt,run_underlying ht,Instr.sliceBounds,Instr.sureAddr,e1,hz0,hn0,Addr.add_lit]
          ·simp[Instr.sliceAt,run_underlying ht,Instr.sliceBounds,Instr.sliceBound,asIntOf,Instr.sureAddr,e1,hz0,hn0,hle,Addr.add_lit,show h'≤len from bh.1]
       ·cases hv
      ·cases hv
    ·cases h
   ·cases h
 |fieldAddr t x fl=>
   simp only[compOp,hop]at h
   split at h
   ·rename_i fs ht
    split at h
    ·rename_i fd y hf hy
     split at h
     ·rename_i n hn
      split at h
      ·cases h
      ·rename_i hn0
       cases h
       simp only[aop]at hv
       have hx:=hE.opd hy
       have hrun: ∀(b off:Nat),(Instr.fieldAt t (.pointer (some ⟨b,off,none⟩)) fl).run P w= .ok (.pointer (some ⟨b,off+fd.offset,none⟩)) w:=by
        intro b off
        simp[Instr.fieldAt,run_underlying ht,hf,Instr.sureAddr,fieldPlace,run_sizeOf' hn,hn0,Addr.add_lit]
       simp only[execOp,hop]
       generalize a.eval x=ux at hx⊢
       split at hv
       ·rename_i d l off he
        cases hv
        rw[he]at hx
        cases hx with
        |ptr _ _ _ b hd hb=>exact OpOk.of_run hS (hrun b off) (.ptr _ _ _ b hd hb)
       ·rename_i cs he
        cases hv
        rw[he]at hx
        have hx':=hx
        cases hx with
        |ep _ b off _ _ _ _=>exact OpOk.of_run hS (hrun b off) (ep_drop hx' _)
       ·rename_i d l q i j he
        split at hv
        ·rename_i ha
         cases hv
         rw[he]at hx
         obtain⟨b,sz,rfl,hb,hd⟩:=alive_eptr hS hx ha
         have:=hb (j+fd.offset)
         rw[←Nat.add_assoc]at this
         exact OpOk.of_run hS (hrun b (i*sz+j)) this
        ·cases hv
       ·cases hv
     ·cases h
    ·cases h
   ·cases h
 |field t x fl=>
   simp only[compOp,hop]at h
   split at h
   ·rename_i fs ht
    split at h
    ·rename_i fd y hf hy
     obtain⟨n,hn,rfl⟩:=Option.map_eq_some_iff.1 h
     simp only[aop]at hv
     have hx:=hE.opd hy
     split at hv
     ·rename_i cs he
      obtain⟨v',hp,hv⟩:=Option.map_eq_some_iff.1 hv
      cases hv
      rw[he]at hx
      obtain⟨us,hu,hl⟩:=hx.agg_inv
      obtain⟨u,h1,h2⟩:=part_ok (P:=P) (w:=w) hn hl hp
      simp only[execOp,hop,hu]
      refine OpOk.of_run hS ?_ h2
      simp[Instr.field,run_underlying ht,hf,asAgg]
      simpa using h1
     ·cases hv
    ·cases h
   ·cases h
 |indexAddr t x i=>
   simp only[compOp,hop]at h
   split at h
   ·rename_i el x' i' ht hx hi
    split at h
    ·rename_i n hn
     split at h
     ·cases h
     ·rename_i hn0
      cases h
      simp only[aop]at hv
      have ux:=hE.opd hx
      have ui:=hE.opd hi
      split at hv
      ·rename_i c z es k he hk
       split at hv
       ·rename_i hc
        split at hv
        ·rename_i cs hcs
         cases hv
         obtain⟨hk0,rfl⟩:=hc
         rw[he]at ux
         obtain⟨kk,hik⟩:=idx_inv ui hk
         obtain⟨b,off,cap,hu,hlt,hep⟩:=sl_at ux hcs
         simp only[execOp,hop,hu,hik]
         refine OpOk.of_run hS ?_ hep
         have hlt':k<(es.length:Int):=by omega
         simp[Instr.indexAt,run_underlying ht,asIntOf,run_sizeOf' hn,hk0,hlt',Addr.add_lit]
        ·cases hv
       ·cases hv
      ·rename_i d l z q o len k he hk
       split at hv
       ·rename_i hc
        cases hv
        obtain⟨hk0,hk1,rfl,ha⟩:=hc
        rw[he]at ux
        obtain⟨kk,hik⟩:=idx_inv ui hk
        generalize hux:a.eval x=u at ux
        obtain⟨hd,⟨base,_,rfl,rfl,rfl,_⟩|⟨b,c,rfl,hb,hle,hkc⟩⟩:=alive_asl hS ux ha
        ·omega
        simp only[execOp,hop,hux,hik]
        have:=hb.2.1 (o+k.toNat) 0
        refine OpOk.of_run hS ?_ this
        simp[Instr.indexAt,run_underlying ht,asIntOf,run_sizeOf' hn,hk0,hk1,Addr.add_lit,Nat.add_mul]
       ·cases hv
      ·rename_i d l o len k he hk
       split at hv
       ·rename_i hc
        cases hv
        obtain⟨hk0,hk1,rfl⟩:=hc
        rw[he]at ux
        obtain⟨kk,hik⟩:=idx_inv ui hk
        generalize hux:a.eval x=u at ux
        cases ux with
        |csl _ _ cap ad hle hp=>
          cases hp with
          |ptr _ _ _ b hd hb=>
            simp only[execOp,hop,hux,hik]
            refine OpOk.of_run hS ?_ (VR.ptr (D:=s.length) (w:=w) d l (o+k.toNat) b hd hb)
            simp[Instr.indexAt,run_underlying ht,asIntOf,run_sizeOf' hn,hk0,hk1,Addr.add_lit]
       ·cases hv
      ·cases hv
    ·cases h
   ·rename_i len el x' i' ht hx hi
    split at h
    ·rename_i n hn
     split at h
     ·cases h
     ·rename_i hn0
      cases h
      simp only[aop]at hv
      have ux:=hE.opd hx
      have ui:=hE.opd hi
      have hrun: ∀(b off:Nat) (kk:IntKind) (k:Int),0≤k→k<len→(Instr.indexAt t (.pointer (some ⟨b,off,none⟩)) (.int kk k)).run P w= .ok (.pointer (some ⟨b,off+k.toNat*n,none⟩)) w:=by
       intro b off kk k h0 h1
       simp[Instr.indexAt,run_underlying ht,asIntOf,Instr.sureAddr,run_sizeOf' hn,h0,h1,Addr.add_lit]
      split at hv
      ·rename_i d l off k he hk
       split at hv
       ·rename_i hc
        cases hv
        rw[he]at ux
        obtain⟨kk,hik⟩:=idx_inv ui hk
        cases hux:a.eval x with
        |pointer p=>
          rw[hux]at ux
          cases ux with
          |ptr _ _ _ b hd hb=>
            simp only[execOp,hop,hux,hik]
            exact OpOk.of_run hS (hrun b off kk k hc.1 hc.2) (.ptr _ _ _ b hd hb)
        |_=>rw[hux]at ux;cases ux
       ·cases hv
      ·rename_i cs k he hk
       split at hv
       ·rename_i hc
        cases hv
        rw[he]at ux
        obtain⟨kk,hik⟩:=idx_inv ui hk
        obtain⟨b,off,us,hux,_⟩:=ux.ep_inv
        rw[hux]at ux
        simp only[execOp,hop,hux,hik]
        exact OpOk.of_run hS (hrun b off kk k hc.1 hc.2) (ep_drop ux _)
       ·cases hv
      ·rename_i d l q k0 j k he hk
       split at hv
       ·rename_i hc
        cases hv
        rw[he]at ux
        obtain⟨kk,hik⟩:=idx_inv ui hk
        generalize hux:a.eval x=u at ux
        obtain⟨b,sz,rfl,hb,hd⟩:=alive_eptr hS ux hc.2
        simp only[execOp,hop,hux,hik]
        have:=hb (j+k.toNat*n)
        rw[←Nat.add_assoc]at this
        exact OpOk.of_run hS (hrun b _ kk k hc.1.1 hc.1.2) this
       ·cases hv
      ·cases hv
    ·cases h
   ·cases h
 |index t x i=>
   simp only[compOp,hop]at h
   split at h
   ·rename_i ht
    split at h
    ·rename_i bs i' hi
     cases h
     simp only[aop]at hv
     have ui:=hE.opd hi
     split at hv
     ·rename_i k hk
      split at hv
      ·rename_i h0
       split at hv
       ·rename_i b hb
        cases hv
        obtain⟨kk,hik⟩:=idx_inv ui hk
        rw[List.getElem?_map]at hb
        obtain⟨b',hb',rfl⟩:=Option.map_eq_some_iff.1 hb
        simp only[execOp,hop,hik]
        refine OpOk.of_run hS (u:= .int .u8 b'.toNat) ?_ (.int _ _)
        have hev:a.eval (.const (.string bs))= .string bs:=rfl
        have hg:bs[k.toNat]? =some b':=by
         have h1:bs.data[k.toNat]? =some b':=by simpa using hb'
         obtain⟨hlt,h2⟩:=Array.getElem?_eq_some_iff.1 h1
         have hlt':k.toNat<bs.size:=hlt
         rw[getElem?_pos bs k.toNat hlt']
         exact congrArg some h2
        simp[hev,Instr.index,run_underlying ht,asIntOf,h0,hg]
       ·cases hv
      ·cases hv
     ·cases hv
    ·cases h
   split at h
   ·rename_i len el x' i' ht hx hi
    split at h
    ·rename_i n m hn hm
     split at h
     ·cases h
     ·rename_i hn0
      cases h
      simp only[aop]at hv
      have ux:=hE.opd hx
      have ui:=hE.opd hi
      split at hv
      ·rename_i cs k he hk
       split at hv
       ·rename_i hc
        obtain⟨v',hp,hv⟩:=Option.map_eq_some_iff.1 hv
        cases hv
        rw[he]at ux
        obtain⟨kk,hik⟩:=idx_inv ui hk
        obtain⟨us,hux,hl⟩:=ux.agg_inv
        obtain⟨u,h1,h2⟩:=part_ok (P:=P) (w:=w) hm hl hp
        simp only[execOp,hop,hux,hik]
        refine OpOk.of_run hS ?_ h2
        simp[Instr.index,run_underlying ht,asIntOf,run_sizeOf' hn,hc.1,hc.2]
        simpa using h1
       ·cases hv
      ·cases hv
    ·cases h
   ·cases h
 |extract x i=>
   simp only[compOp,hop]at h
   obtain⟨y,hy,rfl⟩:=Option.map_eq_some_iff.1 h
   simp only[aop]at hv
   have hx:=hE.opd hy
   split at hv
   ·rename_i vs he
    obtain⟨x',hp,hv⟩:=Option.map_eq_some_iff.1 hv
    cases hv
    rw[he]at hx
    obtain⟨us,hu,hl⟩:=hx.tup_inv
    have hlt:i<us.size:=by have:=(List.getElem?_eq_some_iff.1 hp).1;rw[hl.1]at this;simpa using this
    simp only[execOp,hop,hu]
    refine OpOk.of_run hS (u:=us[i]) ?_ (hl.2 i _ us[i] hp (by simp[hlt]))
    simp[Instr.extract,hlt]
   ·cases hv
 |makeSlice t l c=>
   simp only[compOp,hop]at h
   split at h
   ·rename_i el ht
    split at h
    ·rename_i z i l' c' hz hi hl hc
     split at h
     ·rename_i hcond
      cases h
      simp only[aop]at hv
      split at hv
      ·rename_i n k h1 h2
       split at hv
       ·rename_i hq
        cases hv
        obtain⟨q1,q2,q3,q4,q5,q6⟩:=hq
        subst q2
        obtain⟨k1,e1⟩:=idx_inv (hE.opd hl) h1
        obtain⟨k2,e2⟩:=idx_inv (hE.opd hc) h2
        obtain⟨u,w',γ',r1,r2,r3,r4⟩:=mksl_ok (K:=K) hS q6 (lab:=lab) (by simpa using q5) ht hz hi hcond.1 hcond.2 q1 q3 q4 k1 k2
        refine⟨u,w',γ', .inl ?_,r2,r3,r4⟩
        simp[execOp,hop,e1,e2,r1]
       ·cases hv
      ·cases hv
     ·cases h
    ·cases h
   ·cases h
 |call c=>
   obtain⟨callee,args,argTypes⟩:=c
   have arr: ∀ {α:Type} {xs:Array α} {l:List α},xs.toList=l→xs=l.toArray:=fun h=>by rw[←h]
   cases callee with
   |value g=>
     exfalso
     cases g with
     |func f=>
       simp only[compOp,hop]at h
       obtain⟨y,hy,rfl⟩:=Option.map_eq_some_iff.1 h
       cases hv
     |tmp t=>
       simp only[compOp,hop]at h
       split at h
       ·cases h;cases hv
       ·cases h
     |const c=>
       simp only[compOp,hop]at h
       split at h
       ·cases h;cases hv
       ·cases h
     |global g=>
       simp only[compOp,hop]at h
       split at h
       ·cases h;cases hv
       ·cases h
   |invoke r m=>simp[compOp,hop]at h
   |builtin b=>
     cases b with
     |len=>
       simp only[compOp,hop]at h
       split at h
       ·rename_i t x ha hb
        have ea:=arr ha
        have eb:=arr hb
        subst ea;subst eb
        split at h
        ·rename_i el y ht hy
         cases h
         simp only[aop]at hv
         have hx:=hE.opd hy
         split at hv
         ·rename_i c z es he
          cases hv
          rw[he]at hx
          rcases hx.sl_inv with ⟨base,cap,hu,rfl,_⟩|⟨b,off,cap,us,hu,_⟩
          ·refine⟨.int .i64 0,w,γ, .inl ?_, .int _ _,hS,Ext.refl _ _ _⟩
           simp[execOp,hop,resolve,invoke,builtin,Builtin.len_,run_underlying ht,hu,goInt]
          ·refine⟨.int .i64 es.length,w,γ, .inl ?_, .int _ _,hS,Ext.refl _ _ _⟩
           simp[execOp,hop,resolve,invoke,builtin,Builtin.len_,run_underlying ht,hu,goInt]
         ·rename_i d l z q o n he
          split at hv
          ·rename_i hal
           cases hv
           rw[he]at hx
           generalize hux:a.eval x=u at hx
           obtain⟨hd,⟨base,rfl,rfl,rfl,rfl,_⟩|⟨b,c,rfl,_⟩⟩:=alive_asl hS hx hal
           ·refine⟨.int .i64 0,w,γ, .inl ?_, .int _ _,hS,Ext.refl _ _ _⟩
            simp[execOp,hop,resolve,invoke,builtin,Builtin.len_,run_underlying ht,hux,goInt]
           ·refine⟨.int .i64 n,w,γ, .inl ?_, .int _ _,hS,Ext.refl _ _ _⟩
            simp[execOp,hop,resolve,invoke,builtin,Builtin.len_,run_underlying ht,hux,goInt]
          ·cases hv
         ·rename_i p n he
          cases hv
          rw[he]at hx
          generalize hux:a.eval x=u at hx
          cases hx with
          |csl _ _ cap ad hle hp=>
            refine⟨.int .i64 n,w,γ, .inl ?_, .int _ _,hS,Ext.refl _ _ _⟩
            simp[execOp,hop,resolve,invoke,builtin,Builtin.len_,run_underlying ht,hux,goInt]
         ·cases hv
        ·rename_i n el y ht hy
         cases h
         simp only[aop,Opd.ev]at hv;cases hv
         refine⟨.int .i64 n,w,γ, .inl ?_, .int _ _,hS,Ext.refl _ _ _⟩
         simp[execOp,hop,resolve,invoke,builtin,Builtin.len_,run_underlying ht,goInt]
        ·cases h
       ·cases h
     |append=>
       simp only[compOp,hop]at h
       split at h
       ·rename_i t u x y ha hb
        have ea:=arr ha
        have eb:=arr hb
        subst ea;subst eb
        split at h
        ·rename_i el el' x' y' ht hu hx hy
         split at h
         ·rename_i i hi
          split at h
          ·rename_i z hz
           split at h
           ·rename_i hc
            obtain⟨h0,hzs,rfl⟩:=hc
            cases h
            simp only[aop]at hv
            have ux:=hE.opd hx
            have uy:=hE.opd hy
            split at hv
            ·rename_i c z1 es c2 z2 fs hex hey
             split at hv
             ·rename_i hc2
              rw[hex]at ux;rw[hey]at uy
              obtain⟨u,w',γ',h1,h2,h3,h4⟩:=append_ok (P:=P) hS o.type ht hi hz h0 hzs hc2.2.2.1 hc2.2.2.2 hc2.1 hc2.2.1 hv ux uy
              refine⟨u,w',γ', .inl ?_,h2,h3,h4⟩
              simp[execOp,hop,resolve,invoke,builtin,h1]
             ·cases hv
            ·rename_i d l z1 q o k c2 z2 fs hex hey
             split at hv
             ·rename_i z3 es hg
              split at hv
              ·rename_i hc2
               obtain⟨q1,q2,rfl,rfl,rfl,rfl,rfl,q3⟩:=hc2
               rw[hex]at ux;rw[hey]at uy
               obtain⟨u,w',γ',h1,h2,h3,h4⟩:=appa_ok (P:=P) hS o.type ht hi hz h0 hzs q1 q2 hg ux q3 uy hv
               refine⟨u,w',γ', .inl ?_,h2,h3,h4⟩
               simp[execOp,hop,resolve,invoke,builtin,h1]
              ·cases hv
             ·rename_i lo z3 es hg
              split at hv
              ·rename_i hc2
               obtain⟨q1,q2,rfl,rfl,rfl,rfl,rfl,rfl,q3,_⟩:=hc2
               cases hv
               rw[hex]at ux;rw[hey]at uy
               obtain⟨u,w',γ',h1,h2,h3,h4⟩:=happ_ok (P:=P) hS o.type ht hi hz hzs q1 q2 hg ux q3 uy
               refine⟨u,w',γ', .inl ?_,h2,h3,h4⟩
               simp[execOp,hop,resolve,invoke,builtin,h1]
              ·cases hv
             ·cases hv
            ·rename_i d l z1 q o' k d2 l2 z2 q2 o2 k2 hex hey
             split at hv
             ·rename_i z3 es z4 gs hg hg2
              split at hv
              ·rename_i hc2
               obtain⟨c1,c2,rfl,rfl,rfl,rfl,rfl,rfl,rfl,rfl,c3,c4,rfl,rfl,_,c5⟩:=hc2
               cases hv
               rw[hex]at ux;rw[hey]at uy
               have hlen:((gs.drop o2).take k2).length=k2:=by simp;omega
               obtain⟨blk2,e1,e2,e3⟩:=hS.ent _ _ _ hg2
               obtain⟨b2,cap2,hu2,hb2,hk2⟩: ∃b k,a.eval y= .slice (some ⟨b,o2*i.size,none⟩) k2 (k-o2)∧γ (dep s) l2=some (.arr gs.length (some (b,i.size,k)))∧gs.length≤k:=by
                have hal:aliveE gs.length (sget s (dep s) l2)=true:=by rw[hg2];simp[aliveE]
                rcases alive_asl hS uy hal with ⟨_,⟨_,_,_,_,h0',_⟩|⟨b,k,hu,hb,_,hk⟩⟩
                ·exact absurd h0' c4
                ·exact⟨b,k,hu,hb.2.2 ⟨_,_,hg2⟩,hk⟩
               rw[e1]at hb2;cases hb2
               obtain⟨_,cc,el2,e4,e5,e6,e7,e8,e9⟩:=e3
               have hfz: ∀cs,cs∈(gs.drop o2).take k2→cs.length=i.size:=fun cs hcs=>e2 cs (List.mem_of_mem_drop (List.mem_of_mem_take hcs))
               have hfl:=flatten_len _ hfz
               rw[hlen]at hfl
               have hsize:o2*i.size+k2*i.size≤cc.size:=by rw[e6,←Nat.add_mul];exact Nat.mul_le_mul_right _ (by omega)
               have hln:LR (dep s+1) w γ ((gs.drop o2).take k2).flatten ((cc.toList.drop (o2*i.size)).take (k2*i.size)):=by
                refine⟨by rw[hfl];simp;omega,fun x v u hv hu=> ?_⟩
                have hx:x<k2*i.size:=by rw[←hfl];exact(List.getElem?_eq_some_iff.1 hv).1
                rw[List.getElem?_take,if_pos hx,List.getElem?_drop]at hu
                have hx':x=x/i.size*i.size+x%i.size:=by rw[Nat.mul_comm,Nat.div_add_mod]
                have hm2:=Nat.mod_lt x h0
                rw[hx']at hv
                rw[flatten_get _ hfz _ _ hm2]at hv
                obtain⟨cs,p1,p2⟩:=Option.bind_eq_some_iff.1 hv
                rw[List.getElem?_take]at p1
                split at p1
                ·rw[List.getElem?_drop]at p1
                 refine e9 (o2+x/i.size) cs (x%i.size) v u p1 p2 ?_
                 rw[Nat.add_mul,Nat.add_assoc,←hx']
                 simpa using hu
                ·cases p1
               have hrn:RD w b2 (o2*i.size) ((cc.toList.drop (o2*i.size)).take (k2*i.size)):=by
                intro x u hu
                rw[List.getElem?_take]at hu
                split at hu
                ·rw[List.getElem?_drop]at hu
                 rw[cell_of_row w b2 (o2*i.size+x) cc el2 (0,0) e4]
                 simpa using hu
                ·cases hu
               have hone: ∀u∈(cc.toList.drop (o2*i.size)).take (k2*i.size),u.oneCell'=true:=hln.one (fun v hv=>by
                obtain⟨cs,p1,p2⟩:=List.mem_flatten.1 hv
                exact oneAll_mem (List.all_eq_true.1 c5 cs (List.mem_of_mem_drop (List.mem_of_mem_take p1))) v p2)
               obtain⟨u,w',γ',h1,h2,h3,h4⟩:=appg_ok (P:=P) hS (fs:=(gs.drop o2).take k2) (cap2:=cap2-o2) o.type ht hi hz h0 hzs (by rw[hlen];exact c1) (by rw[hlen];exact c2) hg ux (by rw[hlen];omega) hfz hln hrn hone
               rw[hlen]at h1 h2
               refine⟨u,w',γ', .inl ?_,h2,h3,h4⟩
               simp[execOp,hop,resolve,invoke,builtin,h1,hu2]
              ·cases hv
             ·cases hv
            ·cases hv
           ·cases h
          ·cases h
         ·cases h
        ·cases h
       ·cases h
     |clear=>
       simp only[compOp,hop]at h
       split at h
       ·rename_i t x ha hb
        have ea:=arr ha
        have eb:=arr hb
        subst ea;subst eb
        split at h
        ·rename_i el x' ht hx
         split at h
         ·rename_i z n hz hn
          split at h
          ·rename_i hc
           cases h
           obtain⟨hz0,rfl⟩:=hc
           simp only[aop]at hv
           have ux:=hE.opd hx
           split at hv
           ·rename_i c z1 es he
            split at hv
            ·rename_i h0
             subst h0
             cases hv
             rw[he]at ux
             rcases ux.sl_inv with ⟨base,cap,hu,_,_⟩|⟨b,off,cap,us,hu,_⟩
             ·refine⟨.tuple #[],w,γ, .inl ?_, .undef _,hS,Ext.refl _ _ _⟩
              cases base<;>simp[execOp,hop,resolve,invoke,builtin,Builtin.clear_,run_underlying ht,hu]
             ·refine⟨.tuple #[],w,γ, .inl ?_, .undef _,hS,Ext.refl _ _ _⟩
              simp[execOp,hop,resolve,invoke,builtin,Builtin.clear_,run_underlying ht,hu]
            ·cases hv
           ·rename_i d l sz q o n he
            rw[he]at ux
            split at hv
            ·rename_i z0 es hg
             split at hv
             ·rename_i hc2
              obtain⟨rfl,hle,rfl,hzl,hp,ho⟩:=hc2
              have hal:aliveE es.length (sget s d l)=true:=by rw[hg];simp[aliveE]
              obtain⟨hd,hcase⟩:=alive_asl hS ux hal
              split at hv
              ·rename_i hn0
               subst hn0
               cases hv
               rcases hcase with ⟨base,hu,_⟩|⟨b,c,hu,_⟩
               ·refine⟨.tuple #[],w,γ, .inl ?_, .undef _,hS,Ext.refl _ _ _⟩
                cases base<;>simp[execOp,hop,resolve,invoke,builtin,Builtin.clear_,run_underlying ht,hu]
               ·refine⟨.tuple #[],w,γ, .inl ?_, .undef _,hS,Ext.refl _ _ _⟩
                simp[execOp,hop,resolve,invoke,builtin,Builtin.clear_,run_underlying ht,hu]
              ·rename_i hn0
               cases hv
               rcases hcase with ⟨base,hu,_,_,h3,_⟩|⟨b,c,hu,hb,_,_⟩
               ·exact absurd h3 hn0
               ·replace hb:=hb.2.2 ⟨_,_,hg⟩
                obtain⟨i,zv,hi,hz',hl,hzr⟩:=zeroT_ok hz (d+1) w γ
                have hzs:zv.cells.size=z.length:=by simpa using hl.1.symm
                obtain⟨w',r1,r2,r3⟩:=store_run_ok (P:=P) hS hg hb (o:=o) (fs:=List.replicate n z) (us:=(Builtin.zeroCells zv.cells n).toList) (fun cs hcs=>by rw[(List.mem_replicate.1 hcs).2];exact hzl)
                 (by
                   refine⟨by simp[zeroCells_size,hzs],fun j v u h1 h2=> ?_⟩
                   have hj:j<n*z.length:=by have:=(List.getElem?_eq_some_iff.1 h1).1;simpa using this
                   rw[replicate_flatten_get _ _ _ hj]at h1
                   have hm:j%zv.cells.size<zv.cells.size:=Nat.mod_lt _ (by omega)
                   have hj2:j<n*zv.cells.size:=by rw[hzs];exact hj
                   simp only[Builtin.zeroCells,Array.toList_map,List.getElem?_map,Array.toList_range,List.getElem?_range hj2,Option.map_some,Option.some.injEq]at h2
                   rw[getElem!_pos zv.cells _ hm]at h2
                   subst h2
                   exact hl.2 (j%z.length) v _ h1 (by rw[←hzs];simp[hm])) (by
                   have: ∀m,V.oneAll (List.replicate m z).flatten=true:=by
                    intro m
                    induction m with
                    |zero=>rfl
                    |succ m ih=>
                      rw[List.replicate_succ,List.flatten_cons]
                      have app: ∀(a b:List V),V.oneAll a=true→V.oneAll b=true→V.oneAll (a ++b)=true:=by
                       intro a
                       induction a with
                       |nil=>intro b _ h;exact h
                       |cons x a iha=>intro b h1 h2;simp only[V.oneAll,Bool.and_eq_true,List.cons_append]at h1⊢;exact⟨h1.1,iha b h1.2 h2⟩
                      exact app _ _ ho ih
                   exact this n) (by simpa using hle)
                rw[List.length_replicate]at r2
                refine⟨.tuple #[],w',γ, .inl ?_, .undef _,r2,r3⟩
                obtain⟨m,rfl⟩: ∃m,n=m+1:=⟨n-1,by omega⟩
                simp[execOp,hop,resolve,invoke,builtin,Builtin.clear_,run_underlying ht,hu,hzr,r1]
             ·cases hv
            ·cases hv
           ·cases hv
          ·cases h
         ·cases h
        ·cases h
       ·cases h
     |max=>
       simp only[compOp,hop]at h
       split at h
       ·rename_i x y hc
        cases h
        obtain⟨p,q,hl,hp,hq⟩:=copds_two hc
        have eb:=arr hl
        subst eb
        simp only[aop]at hv
        have ux:=hE.opd hp
        have uy:=hE.opd hq
        split at hv
        ·rename_i k a1 k' b1 h1 h2
         split at hv
         ·rename_i hk
          cases hv
          subst hk
          rw[h1]at ux;rw[h2]at uy
          refine⟨.int k (if b1>a1 then b1 else a1),w,γ, .inl ?_, .int _ _,hS,Ext.refl _ _ _⟩
          simp[execOp,hop,resolve,invoke,builtin,ux.int_inv,uy.int_inv,Builtin.max_,Builtin.max2]
         ·cases hv
        ·cases hv
       ·rename_i x y z hc
        cases h
        obtain⟨p,q,r,hl,hp,hq,hr⟩:=copds_three hc
        have eb:=arr hl
        subst eb
        simp only[aop]at hv
        have ux:=hE.opd hp
        have uy:=hE.opd hq
        have uz:=hE.opd hr
        split at hv
        ·rename_i k a1 k' b1 k'' c1 h1 h2 h3
         split at hv
         ·rename_i hk
          cases hv
          obtain⟨rfl,rfl⟩:=hk
          rw[h1]at ux;rw[h2]at uy;rw[h3]at uz
          refine⟨.int k (if c1>(if b1>a1 then b1 else a1)then c1 else(if b1>a1 then b1 else a1)),w,γ, .inl ?_, .int _ _,hS,Ext.refl _ _ _⟩
          by_cases g1:b1>a1
          ·by_cases g2:c1>b1
           ·simp[execOp,hop,resolve,invoke,builtin,ux.int_inv,uy.int_inv,uz.int_inv,Builtin.max_,Builtin.max2,g1,g2]
           ·simp[execOp,hop,resolve,invoke,builtin,ux.int_inv,uy.int_inv,uz.int_inv,Builtin.max_,Builtin.max2,g1,g2]
          ·by_cases g2:c1>a1
           ·simp[execOp,hop,resolve,invoke,builtin,ux.int_inv,uy.int_inv,uz.int_inv,Builtin.max_,Builtin.max2,g1,g2]
           ·simp[execOp,hop,resolve,invoke,builtin,ux.int_inv,uy.int_inv,uz.int_inv,Builtin.max_,Builtin.max2,g1,g2]
         ·cases hv
        ·cases hv
       ·cases h
     |min=>
       simp only[compOp,hop]at h
       split at h
       ·rename_i x y hc
        cases h
        obtain⟨p,q,hl,hp,hq⟩:=copds_two hc
        have eb:=arr hl
        subst eb
        simp only[aop]at hv
        have ux:=hE.opd hp
        have uy:=hE.opd hq
        split at hv
        ·rename_i k a1 k' b1 h1 h2
         split at hv
         ·rename_i hk
          cases hv
          subst hk
          rw[h1]at ux;rw[h2]at uy
          refine⟨.int k (if b1<a1 then b1 else a1),w,γ, .inl ?_, .int _ _,hS,Ext.refl _ _ _⟩
          simp[execOp,hop,resolve,invoke,builtin,ux.int_inv,uy.int_inv,Builtin.min_,Builtin.min2]
         ·cases hv
        ·cases hv
       ·rename_i x y z hc
        cases h
        obtain⟨p,q,r,hl,hp,hq,hr⟩:=copds_three hc
        have eb:=arr hl
        subst eb
        simp only[aop]at hv
        have ux:=hE.opd hp
        have uy:=hE.opd hq
        have uz:=hE.opd hr
        split at hv
        ·rename_i k a1 k' b1 k'' c1 h1 h2 h3
         split at hv
         ·rename_i hk
          cases hv
          obtain⟨rfl,rfl⟩:=hk
          rw[h1]at ux;rw[h2]at uy;rw[h3]at uz
          refine⟨.int k (if c1<(if b1<a1 then b1 else a1)then c1 else(if b1<a1 then b1 else a1)),w,γ, .inl ?_, .int _ _,hS,Ext.refl _ _ _⟩
          by_cases g1:b1<a1
          ·by_cases g2:c1<b1
           ·simp[execOp,hop,resolve,invoke,builtin,ux.int_inv,uy.int_inv,uz.int_inv,Builtin.min_,Builtin.min2,g1,g2]
           ·simp[execOp,hop,resolve,invoke,builtin,ux.int_inv,uy.int_inv,uz.int_inv,Builtin.min_,Builtin.min2,g1,g2]
          ·by_cases g2:c1<a1
           ·simp[execOp,hop,resolve,invoke,builtin,ux.int_inv,uy.int_inv,uz.int_inv,Builtin.min_,Builtin.min2,g1,g2]
           ·simp[execOp,hop,resolve,invoke,builtin,ux.int_inv,uy.int_inv,uz.int_inv,Builtin.min_,Builtin.min2,g1,g2]
         ·cases hv
        ·cases hv
       ·cases h
     |_=>simp[compOp,hop]at h
 |makeMap t r=>
   cases r with
   |some x=>simp[compOp,hop]at h
   |none=>
     simp only[compOp,hop]at h
     obtain⟨g,hg,rfl⟩:=Option.map_eq_some_iff.1 h
     simp only[aop]at hv
     split at hv
     ·rename_i hc
      cases hv
      simp only[execOp,hop]
      exact mkmap_ok hS hs (by simpa using hc.1) t g.1
     ·cases hv
 |lookup t m k ok=>
   simp only[compOp,hop]at h
   split at h
   ·rename_i g m' k' hg hm hk
    split at h
    ·rename_i hz
     cases h
     simp only[aop]at hv
     split at hv
     ·rename_i d l o ns he hn
      split at hv
      ·rename_i t' kvs hsg
       split at hv
       ·rename_i hc
        obtain⟨rfl,rfl⟩:=hc
        cases hv
        have um:=hE.opd hm
        rw[he]at um
        simp only[execOp,hop]
        exact mget_ok hS (t:=g.1) (k:=g.2.1) (el:=g.2.2) hg hz um (hE.opd hk) hn hsg ok
       ·cases hv
      ·cases hv
     ·cases hv
    ·cases h
   ·cases h
 |mapUpdate t m k x=>
   simp only[compOp,hop]at h
   split at h
   ·rename_i g m' k' x' hg hm hk hx
    cases h
    simp only[aop]at hv
    split at hv
    ·rename_i d l o ns n he hn hxe
     split at hv
     ·rename_i t' kvs hsg
      split at hv
      ·rename_i hc
       obtain⟨rfl,rfl⟩:=hc
       cases hv
       have um:=hE.opd hm
       rw[he]at um
       have ux:=hE.opd hx
       rw[hxe]at ux
       simp only[execOp,hop]
       rw[ux.int_inv]
       exact mput_ok hS (t:=g.1) (k:=g.2.1) (el:=g.2.2) hg um (hE.opd hk) hn hsg
      ·cases hv
     ·cases hv
    ·cases hv
   ·cases h
 |mapEntry t m k=>
   simp only[compOp,hop]at h
   split at h
   ·rename_i g m' k' hg hm hk
    split at h
    ·rename_i hz
     cases h
     simp only[aop]at hv
     split at hv
     ·rename_i d l o ns he hn
      split at hv
      ·rename_i t' kvs hsg
       split at hv
       ·rename_i hc
        obtain⟨rfl,rfl⟩:=hc
        cases hv
        have um:=hE.opd hm
        rw[he]at um
        simp only[execOp,hop]
        exact ment_ok hS (t:=g.1) (k:=g.2.1) (el:=g.2.2) hg hz um (hE.opd hk) hn hsg
       ·cases hv
      ·cases hv
     ·cases hv
    ·cases h
   ·cases h
 |entryStore t m i x=>
   simp only[compOp,hop]at h
   split at h
   ·rename_i m' i' x' hm hi hx
    cases h
    simp only[aop]at hv
    split at hv
    ·rename_i d l o j n he hie hxe
     split at hv
     ·rename_i t' kvs hsg
      split at hv
      ·rename_i hc
       obtain⟨hc,rfl⟩:=hc
       cases hv
       have um:=hE.opd hm
       rw[he]at um
       have ux:=hE.opd hx
       rw[hxe]at ux
       have ui:=hE.opd hi
       rw[hie]at ui
       simp only[execOp,hop]
       rw[ux.int_inv,ui.int_inv]
       exact mest_ok hS um hsg hc
      ·cases hv
     ·cases hv
    ·cases hv
   ·cases h
 |_=>simp[compOp,hop]at h
theorem arr_read(hS:SR K s w γ) {d l:Nat} {u:Value} {z q f n:Nat}(h:VR s.length w γ (.asl d l z q f n) u) {z':Nat} {es:List (List V)}(hg:sget s d l=some (.arr z' es))(hq:q=es.length)(hn:f+n≤es.length):
 ((u= .slice none 0 0∨ ∃a c,u= .slice (some a) 0 c)∧((es.map V.stripAll).drop f).take n=[])∨
 ∃b off cap us,u= .slice (some ⟨b,off,none⟩) (((es.map V.stripAll).drop f).take n).length cap∧(∀cs,cs∈((es.map V.stripAll).drop f).take n→cs.length=z)∧LR s.length w γ (((es.map V.stripAll).drop f).take n).flatten us∧RD w b off us∧
  (∀k,γ d l=some (.arr q (some (b,z,k)))→off=f*z∧cap=k-f)∧ ∃k,γ d l=some (.arr q (some (b,z,k))):=by
 obtain⟨blk,h1,h0,h2⟩:=hS.ent d l _ hg
 have hal:aliveE q (sget s d l)=true:=by rw[hg];simp[aliveE,hq]
 rcases alive_asl hS h hal with ⟨hd,⟨base,rfl,_,rfl,rfl,_⟩|⟨b,k,rfl,hb,hle,hk⟩⟩
 ·refine .inl ⟨?_,by simp⟩
  cases base with
  |none=>exact .inl rfl
  |some a=>exact .inr ⟨_,_,rfl⟩
 ·replace hb:=hb.2.2 ⟨_,_,hg⟩
  rw[hb,hq]at h1;cases h1
  obtain⟨rfl,c,e,h3,h4,h5,h6,h7,h8⟩:=h2
  have hsl: ∀(vs:List V),(V.stripAll vs).length=vs.length:=by
   intro vs
   induction vs with
   |nil=>rfl
   |cons x r ih=>simp[V.stripAll,ih]
  have hz: ∀cs,cs∈((es.map V.stripAll).drop f).take n→cs.length=z:=by
   intro cs hc
   obtain⟨x,hx,rfl⟩:=List.mem_map.1 (List.mem_of_mem_drop (List.mem_of_mem_take hc))
   rw[hsl];exact h0 x hx
  have hlen:(((es.map V.stripAll).drop f).take n).length=n:=by simp;omega
  have hfl:=flatten_len _ hz
  rw[hlen]at hfl
  have hsize:f*z+n*z≤c.size:=by rw[h5,←Nat.add_mul];exact Nat.mul_le_mul_right _ (by omega)
  refine .inr ⟨b,f*z,k-f,(c.toList.drop (f*z)).take (n*z),by rw[hlen],hz,⟨by rw[hfl];simp;omega,fun x v u hv hu=> ?_⟩,?_,fun k' hk'=> ?_,k,hb⟩
  ·have hx:x<n*z:=by rw[←hfl];exact(List.getElem?_eq_some_iff.1 hv).1
   rw[List.getElem?_take,if_pos hx,List.getElem?_drop]at hu
   have hx':x=x/z*z+x%z:=by rw[Nat.mul_comm,Nat.div_add_mod]
   have hm:=Nat.mod_lt x h6
   rw[hx']at hv hu
   rw[flatten_get _ hz _ _ hm]at hv
   obtain⟨cs,k1,k2⟩:=Option.bind_eq_some_iff.1 hv
   rw[List.getElem?_take]at k1
   split at k1
   ·rw[List.getElem?_drop,List.getElem?_map]at k1
    obtain⟨cs0,k3,rfl⟩:=Option.map_eq_some_iff.1 k1
    have hl0:LR (d+1) w γ cs0 ((c.toList.drop ((f+x/z)*z)).take z):=by
     have hlt:f+x/z<es.length:=(List.getElem?_eq_some_iff.1 k3).1
     have hfit:(f+x/z)*z+z≤c.size:=by
      rw[h5]
      calc (f+x/z)*z+z=(f+x/z+1)*z:=by rw[Nat.add_mul (f+x/z)];omega
       _≤k*z:=Nat.mul_le_mul_right _ (by omega)
     refine⟨by rw[h0 cs0 (List.mem_of_getElem? k3)];simp;omega,fun j v u hv hu=> ?_⟩
     rw[List.getElem?_take]at hu
     split at hu
     ·rw[List.getElem?_drop]at hu
      exact h8 _ cs0 j v u k3 hv (by simpa using hu)
     ·cases hu
    have hl1:=(LR.strip' _ _ hl0).mono (show d+1≤s.length by omega)
    refine hl1.2 (x%z) v u k2 ?_
    rw[List.getElem?_take,if_pos hm,List.getElem?_drop,Nat.add_mul,Nat.add_assoc]
    exact hu
   ·cases k1
  ·intro j u hu
   rw[List.getElem?_take]at hu
   split at hu
   ·rw[List.getElem?_drop]at hu
    rw[cell_of_row w b (f*z+j) c e (0,0) h3]
    simpa using hu
   ·cases hu
  ·rw[hb]at hk';cases hk';exact⟨rfl,rfl⟩
theorem flat_one(l:List V):(l.map fun v=>[v]).flatten=l:=by
 induction l with
 |nil=>rfl
 |cons v r ih=>simp only[List.map_cons,List.flatten_cons,ih,List.singleton_append]
theorem csl_read(hS:SR K s w γ) {d l o n:Nat} {u:Value}(h:VR s.length w γ (.csl (.ptr d l o) n) u) {cs:List V}(hg:sget s d l=some (.cell cs))(hn:o+n≤cs.length) {z:Nat}(hz:z=1):
 ∃b off cap us,u= .slice (some ⟨b,off,none⟩) (((cs.drop o).take n).map fun v=>[v]).length cap∧(∀x,x∈((cs.drop o).take n).map (fun v=>[v])→x.length=z)∧LR s.length w γ (((cs.drop o).take n).map fun v=>[v]).flatten us∧RD w b off us:=by
 cases h with
 |csl _ _ cap a hle hp=>
   cases hp with
   |ptr _ _ _ b hd hb=>
     obtain⟨b',c,e,h1,h2,h3⟩:=hS.cell hg
     rw[hb]at h1;cases h1
     refine⟨b,o,cap,(c.toList.drop o).take n,?_,?_,?_,?_⟩
     ·have:(((cs.drop o).take n).map fun v=>[v]).length=n:=by simp;omega
      rw[this]
     ·intro x hx
      obtain⟨v,_,rfl⟩:=List.mem_map.1 hx
      simp[hz]
     ·rw[flat_one]
      exact((h3.drop o).take n).mono (by omega)
     ·intro j u hu
      have hr:=RD.row h2 o
      rw[List.getElem?_take]at hu
      split at hu
      ·exact hr j u hu
      ·cases hu
theorem lit_inv {o:Oper} {z:List V} {n:Nat} {qs:List (Nat×Opd)}(h:compOp P o=some (.lit z n qs)):
 ∃t el ps,o.op= .buildSlice t n ps∧P.underlying t=some (.slice el)∧zeroT P el=some z∧partsL P el ps.toList=some qs∧0<z.length∧n*z.length≤4096∧sizeT P el=some z.length:=by
 cases hop:o.op with
 |buildSlice t len ps=>
   simp only[compOp,hop]at h
   split at h
   ·rename_i el hu
    split at h
    ·rename_i z' qs' hz hq
     split at h
     ·rename_i hc
      cases h
      exact⟨t,el,ps,rfl,hu,hz,hq,hc.1,hc.2.1,hc.2.2⟩
     ·cases h
    ·cases h
   ·cases h
 |call c=>
   exfalso
   obtain⟨callee,args,argTypes⟩:=c
   cases callee with
   |builtin b=>
     cases b<;>simp only[compOp,hop,reduceCtorEq]at h
     all_goals (repeat' (split at h))
     all_goals (cases h;done)
   |value g=>
     cases g with
     |func f=>
       simp only[compOp,hop]at h
       obtain⟨y,hy,h⟩:=Option.map_eq_some_iff.1 h
       cases h
     |tmp t=>
       simp only[compOp,hop]at h
       split at h<;>cases h
     |const c=>
       simp only[compOp,hop]at h
       split at h<;>cases h
     |global g=>
       simp only[compOp,hop]at h
       split at h<;>cases h
   |invoke r m=>simp[compOp,hop]at h
 |_=>
   exfalso
   simp only[compOp,hop,reduceCtorEq]at h
   all_goals first
    |(obtain⟨_,_,h⟩:=Option.map_eq_some_iff.1 h;cases h;done)
    | (repeat' (split at h)
       all_goals first|contradiction|(cases h;done)|(obtain⟨_,_,h⟩:=Option.map_eq_some_iff.1 h;cases h;done))
theorem op_soundM(hS:SR K s w γ)(hE:ER s.length w γ e a)(hs:s≠[]) {o:Oper} {m:Bool} {ao:AOp}(h:compOpM P m o=some ao) {lab:Nat} {v:V} {f:Eff}(hv:aop ao lab e s=some (v,f)):
 OpOk K s w γ ((execOp a.eval o).run P w) v f:=by
 have h':=(compOpM_cases h).2
 clear h
 rcases h' with h|rfl
 rotate_left
 ·simp only[aop]at hv;cases hv
 unfold compOpN at h
 split at h
 ·obtain⟨ao0,h0,h2⟩:=Option.map_eq_some_iff.1 h
  clear h
  have h:=h0
  clear h0
  subst h2
  cases ao0 with
  |app esz bytes x0 y0=>
    simp only[AOp.mut]at hv
    cases hop:o.op with
    |call c=>
      obtain⟨callee,args,argTypes⟩:=c
      have arr: ∀ {α:Type} {xs:Array α} {l:List α},xs.toList=l→xs=l.toArray:=fun h=>by rw[←h]
      cases callee with
      |builtin b=>
        cases b with
        |append=>
          simp only[compOp,hop]at h
          split at h
          ·rename_i t u x y ha hb
           have ea:=arr ha
           have eb:=arr hb
           subst ea;subst eb
           split at h
           ·rename_i el el' x' y' ht hu hx hy
            split at h
            ·rename_i i hi
             split at h
             ·rename_i z hz
              split at h
              ·rename_i hc
               obtain⟨h0,hzs,rfl⟩:=hc
               cases h
               simp only[aop]at hv
               have ux:=hE.opd hx
               have uy:=hE.opd hy
               split at hv
               ·rename_i z1 hex
                rw[hex]at ux
                split at hv
                ·rename_i fs hfs
                 split at hv
                 ·rename_i hc2
                  cases hv
                  obtain⟨c1,c2,c3,c4,c5⟩:=hc2
                  have hY:((a.eval y= .slice none 0 0∨ ∃p c,a.eval y= .slice (some p) 0 c)∧fs=[])∨ ∃b off cap us,a.eval y= .slice (some ⟨b,off,none⟩) fs.length cap∧(∀cs,cs∈fs→cs.length=i.size)∧LR s.length w γ fs.flatten us∧RD w b off us:=by
                   split at hfs
                   ·rename_i c z2 gs hey
                    rw[hey]at uy
                    split at hfs
                    ·rename_i hz2
                     cases hfs
                     rcases uy.sl_inv with ⟨base,cap,e0,rfl,_,hb0⟩|⟨b,off,cap,us,e0,q1,q2,_,_,q3,q4,_⟩
                     ·refine .inl ⟨?_,rfl⟩
                      cases base with
                      |none=>have:=hb0 rfl;subst this;exact .inl e0
                      |some a=>exact .inr ⟨_,_,e0⟩
                     ·by_cases hf:fs=[]
                      ·subst hf
                       exact .inl ⟨.inr ⟨_,_,e0⟩,rfl⟩
                      ·refine .inr ⟨b,off,cap,us,e0,?_,q3,q4⟩
                       rw[←hz2.resolve_right hf];exact q1
                    ·cases hfs
                   ·rename_i d l z2 q f n hey
                    rw[hey]at uy
                    split at hfs
                    ·rename_i z3 gs hg
                     split at hfs
                     ·rename_i hz2
                      cases hfs
                      obtain⟨rfl,hq,hn⟩:=hz2
                      rcases arr_read hS uy hg hq hn with h|⟨b,off,cap,us,q1,q2,q3,q4,_⟩
                      ·exact .inl h
                      ·exact .inr ⟨b,off,cap,us,q1,q2,q3,q4⟩
                     ·cases hfs
                    ·cases hfs
                   ·rename_i d l o n hey
                    rw[hey]at uy
                    split at hfs
                    ·rename_i cs hg
                     split at hfs
                     ·rename_i hz2
                      cases hfs
                      obtain⟨h1,hn⟩:=hz2
                      exact .inr (csl_read hS uy hg hn h1)
                     ·cases hfs
                    ·cases hfs
                   ·cases hfs
                  obtain⟨u,w',γ',h1,h2,h3,h4⟩:=appm_ok (P:=P) hS c5 (by simpa using c4) o.type ht hi hz h0 hzs c1 c2 ux hY
                  refine⟨u,w',γ', .inl ?_,h2,h3,h4⟩
                  simp[execOp,hop,resolve,invoke,builtin,h1]
                 ·cases hv
                ·cases hv
               ·cases hv
              ·cases h
             ·cases h
            ·cases h
           ·cases h
          ·cases h
        |_=>
          exfalso
          simp only[compOp,hop,reduceCtorEq]at h
          repeat' (split at h)
          all_goals (cases h;done)
      |value g=>
        exfalso
        cases g with
        |func f=>
          simp only[compOp,hop]at h
          obtain⟨y,hy,h⟩:=Option.map_eq_some_iff.1 h
          cases h
        |tmp t=>
          simp only[compOp,hop]at h
          split at h<;>cases h
        |const c=>
          simp only[compOp,hop]at h
          split at h<;>cases h
        |global g=>
          simp only[compOp,hop]at h
          split at h<;>cases h
      |invoke r m=>simp[compOp,hop]at h
    |_=>
      exfalso
      simp only[compOp,hop,reduceCtorEq]at h
      all_goals first
       |(obtain⟨_,_,h⟩:=Option.map_eq_some_iff.1 h;cases h;done)
       | (repeat' (split at h)
          all_goals first|contradiction|(cases h;done)|(obtain⟨_,_,h⟩:=Option.map_eq_some_iff.1 h;cases h;done))
  |mksl z b l c=>exact op_sound hS hE hs h (lab:=freshL s 9 lab) (by simpa only[AOp.mut,aop]using hv)
  |lit z n ps=>
    obtain⟨t,el,ps',hop,hu,hz,hq,h0,hsm,hsz⟩:=lit_inv h
    simp only[AOp.mut]at hv
    simp only[execOp,hop]
    exact litm_ok hS hE hu hz hq h0 hsm hsz hv
  |_=>exact op_sound hS hE hs h (by simpa only[AOp.mut]using hv)
 ·exact op_sound hS hE hs h hv
end
end Go.Ab

/-
  Regions in the order of the text.
-/
namespace Go.Ab
def Wide(F:Fence):Prop:=F=Fence.wide∨ ∃l,F=Fence.wide.inRound l
theorem Wide.fn {F:Fence}(h:Wide F)(f:FuncId):F.fn f:=by rcases h with rfl|⟨l,rfl⟩<;>trivial
theorem Wide.depth {F:Fence}(h:Wide F):F.depth=none:=by rcases h with rfl|⟨l,rfl⟩<;>rfl
theorem Wide.calls {F:Fence}(h:Wide F) {n:Nat} {P:Program} {f:FuncId} {args:Array Value} {w:World} {R:Ending→World→Prop}(hc:Calls P f args w R):CallsIn F n P f args w R:=by
 rcases h with rfl|⟨l,rfl⟩
 ·exact callsIn_wide.2 hc
 ·exact(callsIn_wide.2 hc:CallsIn Fence.wide n P f args w R)
theorem roundIn_wide {F:Fence}(h:Wide F) {n m:Nat} {P:Program} {l:Nat} {f:FuncId} {tmps:Array Value} {assign body:Code} {w:World} {R:Ending→World→Prop}(hc:RoundIn Fence.wide m P l f tmps assign body w R):RoundIn F n P l f tmps assign body w R:=by
 obtain⟨_,h2⟩:=hc
 refine⟨h.fn f,fun c cs _=> ?_⟩
 obtain⟨e,w',h3,h4⟩:=h2 c cs (room_wide _)
 refine⟨e,w',h3,?_⟩
 rcases h with rfl|⟨l',rfl⟩
 ·exact h4
 ·exact h4
section
variable (K : KK) (P : Program)
def CPost(s:Stk)(w:World)(γ:G)(v:V)(s':Stk):Ending→World→Prop:=fun en w'=>
 ∃u γ',en= .returned u∧VR s'.length w' γ' v u∧SR K s' w' γ'∧Ext s.length w γ w' γ'∧s'.length=s.length
def Enters(f:FuncId):Prop:= ∀args w,(callFunc f args).run P w= .ok (.enter f args) w
def StatOk(T:Tab)(X:Exec):Prop:= ∀f args lab s v s',enter T X f args lab s=some (v,s')→Enters P f∧
 ∀w γ us,LR s.length w γ args us→SR K s w γ→Calls P f us.toArray w (CPost K s w γ v s')
def YldOk(T:Tab)(X:Exec):Prop:= ∀d l args lab s v s',enterV T X (.yld d l) args lab s=some (v,s')→
 ∀w γ b us,γ d l=some (.obj b)→LR s.length w γ args us→SR K s w γ→ ∃f tmps assign body,(Instr.yield b us.toArray).run P w= .ok (.round b f tmps assign body) w∧
  RoundIn Fence.wide 0 P b f tmps assign body w (CPost K s w γ v s')
end
section
variable {K : KK} {P : Program} {T : Tab} {X : Exec} {s : Stk} {w : World} {γ : G} {e : Env} {a : Act}
theorem comp_call {o:Oper} {f:FuncId} {args:List Opd}(h:compOp P o=some (.call f args)): ∃cargs argTypes,o.op= .call ⟨.value (.func f),cargs,argTypes⟩∧copdsT P argTypes.toList cargs.toList=some args:=by
 cases hop:o.op with
 |call c=>
   obtain⟨callee,cargs,argTypes⟩:=c
   cases callee with
   |value g=>
     cases g with
     |func g=>
       simp only[compOp,hop]at h
       obtain⟨ys,hys,h⟩:=Option.map_eq_some_iff.1 h
       cases h
       exact⟨cargs,argTypes,rfl,hys⟩
     |tmp t=>
       simp only[compOp,hop]at h
       split at h<;>cases h
     |const c=>
       simp only[compOp,hop]at h
       split at h<;>cases h
     |global g=>
       simp only[compOp,hop]at h
       split at h<;>cases h
   |invoke r m=>simp[compOp,hop]at h
   |builtin b=>
     exfalso
     cases b<;>simp only[compOp,hop,reduceCtorEq]at h
     all_goals
      repeat' (split at h)
     all_goals first|(cases h;done)
 |_=>
   exfalso
   simp only[compOp,hop,reduceCtorEq]at h
   all_goals first
    |(obtain⟨_,_,h⟩:=Option.map_eq_some_iff.1 h;cases h;done)
    | (repeat' (split at h)
       all_goals first|contradiction|(cases h;done)|(obtain⟨_,_,h⟩:=Option.map_eq_some_iff.1 h;cases h;done))
theorem comp_callv {o:Oper} {x:Opd} {args:List Opd}(h:compOp P o=some (.callv x args)): ∃g cargs argTypes,o.op= .call ⟨.value g,cargs,argTypes⟩∧copd g=some x∧copdsT P argTypes.toList cargs.toList=some args:=by
 cases hop:o.op with
 |call c=>
   obtain⟨callee,cargs,argTypes⟩:=c
   cases callee with
   |value g=>
     cases g with
     |func g=>
       simp only[compOp,hop]at h
       obtain⟨ys,hys,h⟩:=Option.map_eq_some_iff.1 h
       cases h
     |tmp t=>
       simp only[compOp,hop]at h
       split at h
       ·rename_i h1 h2;cases h;exact⟨_,cargs,argTypes,rfl,h1,h2⟩
       ·cases h
     |const c=>
       simp only[compOp,hop]at h
       split at h
       ·rename_i h1 h2;cases h;exact⟨_,cargs,argTypes,rfl,h1,h2⟩
       ·cases h
     |global g=>
       simp only[compOp,hop]at h
       split at h
       ·rename_i h1 h2;cases h;exact⟨_,cargs,argTypes,rfl,h1,h2⟩
       ·cases h
   |invoke r m=>simp[compOp,hop]at h
   |builtin b=>
     exfalso
     cases b<;>simp only[compOp,hop,reduceCtorEq]at h
     all_goals
      repeat' (split at h)
     all_goals first|(cases h;done)
 |_=>
   exfalso
   simp only[compOp,hop,reduceCtorEq]at h
   all_goals first
    |(obtain⟨_,_,h⟩:=Option.map_eq_some_iff.1 h;cases h;done)
    | (repeat' (split at h)
       all_goals first|contradiction|(cases h;done)|(obtain⟨_,_,h⟩:=Option.map_eq_some_iff.1 h;cases h;done))
theorem compOpM_call {m:Bool} {o:Oper} {f:FuncId} {args:List Opd}(h:compOpM P m o=some (.call f args)):compOp P o=some (.call f args):=by
 have h':=(compOpM_cases h).2
 clear h
 rcases h' with h|h
 rotate_left
 ·cases h
 unfold compOpN at h
 split at h
 ·obtain⟨a0,h0,h1⟩:=Option.map_eq_some_iff.1 h
  cases a0<;>simp only[AOp.mut,reduceCtorEq]at h1
  rw[h0,←h1]
 ·exact h
theorem compOpM_callv {m:Bool} {o:Oper} {x:Opd} {args:List Opd}(h:compOpM P m o=some (.callv x args)):compOp P o=some (.callv x args):=by
 have h':=(compOpM_cases h).2
 clear h
 rcases h' with h|h
 rotate_left
 ·cases h
 unfold compOpN at h
 split at h
 ·obtain⟨a0,h0,h1⟩:=Option.map_eq_some_iff.1 h
  cases a0<;>simp only[AOp.mut,reduceCtorEq]at h1
  rw[h0,←h1]
 ·exact h
theorem compOpM_not_defer {m:Bool} {o:Oper} {ao:AOp}(h:compOpM P m o=some ao): ∀c,o.op≠ .defer c:=by
 intro c hc
 have:=(compOpM_cases h).1
 simp[isDefer,hc]at this
theorem op1_sound(hst:StatOk K P T X)(hyl:YldOk K P T X) {F:Fence}(hF:Wide F) {n:Nat}(hS:SR K s w γ)(hE:ER s.length w γ e a)(hs:s≠[]) {o:Oper} {ao:AOper} {m:Bool}(h:compOpM P m o=some ao.op)
 {v:V} {s':Stk} (hv:op1 T X ao e s=some (v,s')) {next:Act→World→Prop} {Q:Exit→Act→World→Prop}
 (hnext: ∀u w' γ',VR s'.length w' γ' v u→SR K s' w' γ'→Ext s.length w γ w' γ'→s'.length=s.length→next (a.put o.dst u) w'):o.wpIn F n P a w next Q:=by
 have hfn:=hF.fn
 refine⟨fun f _=>hfn f,?_⟩
 rw[Oper.semAt_eq _ _ _ (compOpM_not_defer h)]
 have hd:F.depth.isSome=true→1≤n:=fun hx=>by rw[hF.depth]at hx;cases hx
 have entered: ∀(f:FuncId) (vs:List V) (us:Array Value),enter T X f vs (16*ao.dst.getD 0) s=some (v,s')→LR s.length w γ vs us.toList→
  ∀(r:Result Next),(∀w',(callFunc f us).run P w= .ok (.enter f us) w'→r= .ok (.enter f us) w')→o.uponIn F n P a next Q r:=by
  intro f vs us hen hl r hr
  obtain⟨h1,h2⟩:=hst f vs _ s v s' hen
  rw[hr w (h1 us w),Oper.uponIn_enter]
  refine⟨hd,(hF.calls (by simpa using h2 w γ us.toList hl hS)).mono ?_⟩
  rintro en w' ⟨u,γ',rfl,k1,k2,k3,k4⟩
  exact hnext u w' γ' k1 k2 k3 k4
 unfold op1 at hv
 dsimp only at hv
 split at hv
 · --by name
  rename_i f args hc
  have hao:ao.op= .call f args:=by
   cases hx:ao.op<;>rw[hx]at hc<;>simp[AOp.callOf]at hc
   obtain⟨rfl,rfl⟩:=hc;rfl
  rw[hao]at h
  obtain⟨cargs,argTypes,hop,hys⟩:=comp_call (compOpM_call h)
  have hl:=LR.strip' _ _ (hE.opdsT hys)
  refine entered f _ (cargs.map a.eval) hv (by simpa using hl) _ ?_
  intro w' hr
  simp only[execOp,hop,resolve,Act.eval,Deferred.ofValue,Sem.run_bind,Sem.run_pure,Result.andThen_ok,invoke]
  simpa [Act.eval]using hr
 · --a value
  rename_i x args hc
  have hao:ao.op= .callv x args:=by
   cases hx:ao.op<;>rw[hx]at hc<;>simp[AOp.callOf]at hc
   obtain⟨rfl,rfl⟩:=hc;rfl
  rw[hao]at h
  obtain⟨g,cargs,argTypes,hop,hg,hys⟩:=comp_callv (compOpM_callv h)
  have hl:=LR.strip' _ _ (hE.opdsT hys)
  have hx:=hE.opd hg
  generalize hxe:x.ev e=xv at hx hv
  cases xv with
  |fn f first cap=>
    simp only[enterV]at hv
    cases hx':a.eval g with
    |func fn us ws=>
      rw[hx']at hx
      cases hx with
      |fn _ _ _ _ _ h1 h2 k1 k2=>
        have l1:LR s.length w γ first us.toList:=⟨by simpa using h1,fun i v u hv hu=>k1 i v u hv (by simpa using hu)⟩
        have l2:LR s.length w γ cap ws.toList:=⟨by simpa using h2,fun i v u hv hu=>k2 i v u hv (by simpa using hu)⟩
        refine entered f _ (us ++cargs.map a.eval ++ws) hv (by simpa using (l1.append hl).append l2) _ ?_
        intro w' hr
        simp only[execOp,hop,resolve,hx',Deferred.ofValue,Sem.run_bind,Sem.run_pure,Result.andThen_ok,invoke]
        exact hr
    |_=>rw[hx']at hx;cases hx
  |yld d l=>
    cases hx':a.eval g with
    |func fn us ws=>
      rw[hx']at hx
      cases hx with
      |yld _ _ b hd' hb=>
        obtain⟨f,tmps,assign,body,h1,h2⟩:=hyl d l _ _ s v s' hv w γ b _ hb hl hS
        have hr:(execOp a.eval o).run P w= .ok (.round b f tmps assign body) w:=by
         simp only[execOp,hop,resolve,hx',Deferred.ofValue,Sem.run_bind,Sem.run_pure,Result.andThen_ok,invoke]
         have e1:(#[] ++cargs.map a.eval:Array Value)=(cargs.toList.map a.eval).toArray:=by apply Array.ext';simp
         rw[e1]
         exact h1
        rw[hr,Oper.uponIn_round]
        refine⟨hd,(roundIn_wide hF h2).mono ?_⟩
        rintro en w' ⟨u,γ',rfl,k1,k2,k3,k4⟩
        exact hnext u w' γ' k1 k2 k3 k4
    |_=>rw[hx']at hx;cases hx
  |_=>simp[enterV]at hv
 · --any other
  split at hv
  ·rename_i v1 f1 hop
   cases hv
   obtain⟨u,w',γ',hr,k1,k2,k3⟩:=op_soundM hS hE hs h hop
   have hlen:(seff s f1).length=s.length:=by
    cases f1 with
    |none=>rfl
    |some x=>obtain⟨d,l,y⟩:=x;simp[seff]
   rw[←hlen]at k1
   rcases hr with hr|⟨hr,rfl⟩
   ·rw[hr];exact hnext u w' γ' k1 k2 k3 hlen
   ·rw[hr];exact hnext undef w' γ' k1 k2 k3 hlen
  ·cases hv
structure St(K:KK)(N:Nat)(D:Nat)(w:World)(γ:G)(e:Env)(s:Stk)(a:Act)(w':World)(γ':G):Prop where
 size:a.tmps.size=N
 env:ER s.length w' γ' e a
 stk:SR K s w' γ'
 ext:Ext D w γ w' γ'
theorem ER.only {D:Nat} {w:World} {γ:G} {e:Env} {a:Act}(h:ER D w γ e a)(live:List Nat):ER D w γ (e.only live) a:=by
 intro t
 have: ∀(l:List Nat),(Env.get (l.map fun t=>(t,e.get t)) t)=e.get t∨(Env.get (l.map fun t=>(t,e.get t)) t)= .undef:=by
  intro l
  induction l with
  |nil=>exact .inr rfl
  |cons x r ih=>
    simp only[List.map_cons,Env.get]
    split
    ·rename_i hx;subst hx;exact .inl rfl
    ·exact ih
 rcases this live with h1|h1
 ·unfold Env.only;rw[h1];exact h t
 ·unfold Env.only;rw[h1];exact .undef _
theorem yielded_of {ops:Array Oper} {g slot:Nat}(h:(ops[g]?).bind (·.dst)=some slot) {D:Nat}(hE:ER D w γ e a) {b:Bool}(hb:e.get slot= .bool b):yielded ops a.tmps g=some b:=by
 have h1:=hE slot
 rw[hb]at h1
 have h2:=h1.bool_inv
 unfold yielded
 rw[h]
 simp only[Option.bind_some]
 cases ht:a.tmps[slot]? with
 |none=>simp[Array.getD_eq_getD_getElem?,ht,undef]at h2
 |some x=>simp[Array.getD_eq_getD_getElem?,ht]at h2;simp[h2]
theorem yielded_skip {ops:Array Oper} {g slot:Nat}(h:(ops[g]?).bind (·.dst)=some slot) {D:Nat}(hE:ER D w γ e a)(hb:e.get slot= .skip):yielded ops a.tmps g=none:=by
 have h1:=hE slot
 rw[hb]at h1
 have h2:a.tmps.getD slot undef=undef:=by
  generalize a.tmps.getD slot undef=u at h1
  cases h1;rfl
 unfold yielded
 rw[h]
 simp only[Option.bind_some]
 cases ht:a.tmps[slot]? with
 |none=>rfl
 |some x=>simp[Array.getD_eq_getD_getElem?,ht]at h2;simp[h2,undef]
theorem put_size(a:Act)(dst:Option Nat)(u:Value):(a.put dst u).tmps.size=a.tmps.size:=by
 cases dst<;>simp[Act.put]
theorem put_defers(a:Act)(dst:Option Nat)(u:Value):(a.put dst u).defers=a.defers:=by
 cases dst<;>simp[Act.put]
theorem ops_sound(hst:StatOk K P T X)(hyl:YldOk K P T X) {F:Fence}(hF:Wide F) {n N:Nat} {ops:Array Oper} {Q:Exit→Act→World→Prop}: ∀(l:List (Oper×Nat)) {als:List AOper} {muts:List Nat},compOpers P N muts ops l=some als→(∀x∈l,ops[x.2]? =some x.1)→
 ∀ {e:Env} {s:Stk} {a:Act} {w:World} {γ:G} {e':Env} {s':Stk},runOps T X als e s=some (e',s')→s≠[]→a.tmps.size=N→ER s.length w γ e a→SR K s w γ→
 (∀a' w' γ',St K N s.length w γ e' s' a' w' γ'→s'.length=s.length→a'.defers=a.defers→Q .normal a' w')→wpOpsIn F n P ops Q (l.map (·.2)) a w
 |[],als,muts,h,_,e,s,a,w,γ,e',s',hr,hs,hN,hE,hS,hQ=>by
   simp[compOpers]at h;subst h
   simp[runOps]at hr;obtain⟨rfl,rfl⟩:=hr
   exact hQ a w γ ⟨hN,hE,hS,Ext.refl _ _ _⟩ rfl rfl
 |(o,j)::l,als,muts,h,hm,e,s,a,w,γ,e',s',hr,hs,hN,hE,hS,hQ=>by
   have hj:ops[j]? =some o:=hm (o,j) (by simp)
   have hm': ∀x∈l,ops[x.2]? =some x.1:=fun x hx=>hm x (by simp[hx])
   simp only[compOpers]at h
   split at h
   ·rename_i op r h1 h2
    split at h
    ·rename_i hdst
     have hd: ∀d,o.dst=some d→d<a.tmps.size:=fun d hd=>by rw[hd]at hdst;simp at hdst;rw[hN];exact hdst
     simp only[List.map_cons,wpOpsIn,hj]
     have runs: ∀(g:Option (Nat×Bool)),∀ {v:V} {s1:Stk},op1 T X {dst:=o.dst,op,guard:=g} e s=some (v,s1)→runOps T X r (setDst o.dst v e) s1=some (e',s')→
      o.wpIn F n P a w (wpOpsIn F n P ops Q (l.map (·.2))) Q:=by
      intro g v s1 hv hrest
      refine op1_sound hst hyl hF hS hE hs (ao:= {dst:=o.dst,op,guard:=g}) h1 hv (fun u w1 γ1 k1 k2 k3 k4=> ?_)
      have hs1:s1≠[]:=fun e0=>by rw[e0]at k4;exact hs (List.eq_nil_of_length_eq_zero k4.symm)
      refine ops_sound hst hyl hF l h2 hm' hrest hs1 (by rw[put_size];exact hN) ?_ k2 (fun a' w' γ' st hl hd'=> ?_)
      ·rw[k4]at k1⊢
       exact(hE.ext k3).put k1 hd
      ·rw[k4]at hl st
       exact hQ a' w' γ' ⟨st.size,st.env,st.stk,k3.trans st.ext⟩ hl (by rw[hd',put_defers])
     have skips: ∀ {e1:Env},e1=setDst o.dst .skip e→runOps T X r e1 s=some (e',s')→wpOpsIn F n P ops Q (l.map (·.2)) (a.put o.dst undef) w:=by
      intro e1 he hrest
      subst he
      refine ops_sound hst hyl hF l h2 hm' hrest hs (by rw[put_size];exact hN) (hE.put .skip hd) hS (fun a' w' γ' st hl hd'=>hQ a' w' γ' st hl (by rw[hd',put_defers]))
     split at h
     ·rename_i hg
      cases h
      have hw:Region.wanted o (yielded ops a.tmps)=true:=by simp[Region.wanted,hg]
      simp only[hw,if_true]
      simp only[runOps]at hr
      split at hr
      ·rename_i v s1 hv
       exact runs _ hv hr
      ·cases hr
     ·rename_i g want hg
      split at h
      ·rename_i slot hslot
       cases h
       simp only[runOps]at hr
       split at hr
       ·rename_i b hb
        have hy:=yielded_of hslot hE hb
        split at hr
        ·rename_i hbw
         have hw:Region.wanted o (yielded ops a.tmps)=true:=by simp[Region.wanted,hg,hy,hbw]
         simp only[hw,if_true]
         split at hr
         ·rename_i v s1 hv
          exact runs _ hv hr
         ·cases hr
        ·rename_i hbw
         have hw:Region.wanted o (yielded ops a.tmps)=false:=by simp[Region.wanted,hg,hy,hbw]
         simp only[hw,Bool.false_eq_true,if_false]
         exact⟨fun f _=>hF.fn f,skips rfl hr⟩
       ·rename_i hb
        have hy:=yielded_skip hslot hE hb
        have hw:Region.wanted o (yielded ops a.tmps)=false:=by simp[Region.wanted,hg,hy]
        simp only[hw,Bool.false_eq_true,if_false]
        exact⟨fun f _=>hF.fn f,skips rfl hr⟩
       ·cases hr
      ·cases h
    ·cases h
   ·cases h
theorem zipIdx_mem {α:Type}(xs:Array α): ∀x∈xs.toList.zipIdx,xs[x.2]? =some x.1:=by
 intro x hx
 have:=List.mem_zipIdx_iff_getElem?.1 hx
 simpa using this
theorem zipIdx_range {α:Type}(xs:Array α):xs.toList.zipIdx.map (·.2)=List.range xs.size:=by
 simp[List.zipIdx_map_snd,List.range_eq_range']
theorem region_sound(hst:StatOk K P T X)(hyl:YldOk K P T X) {F:Fence}(hF:Wide F) {n N id:Nat} {ops:Array Oper} {Q:Exit→Act→World→Prop} {als:List AOper} {live:List Nat} {muts:List Nat}(h:compOpers P N muts ops ops.toList.zipIdx=some als)
 {e':Env} {s':Stk} (hr:runOps T X als e s=some (e',s')) (hs:s≠[]) (hN:a.tmps.size=N) (hE:ER s.length w γ e a) (hS:SR K s w γ)
 (hQ: ∀a' w' γ',St K N s.length w γ (e'.only live) s' a' w' γ'→s'.length=s.length→a'.defers=a.defers→Q .normal a' w'):(Code.region id ops false).wpIn F n P Q a w:=by
 refine wpIn_region ?_
 rw[←zipIdx_range]
 refine ops_sound hst hyl hF _ h (zipIdx_mem ops) hr hs hN hE hS (fun a' w' γ' st hl hd=>hQ a' w' γ' ⟨st.size,?_,st.stk,st.ext⟩ hl hd)
 exact st.env.only live
end
end Go.Ab

/-
  What becomes of a state when names are dropped, renamed, or turn no more.
-/
namespace Go.Ab
theorem VR.pureOwn {D:Nat} {w:World} {γ γ':G}(own: ∀b off,Own γ' b off→Own γ b off) {v:V} {u:Value}(h:VR D w γ v u)(D':Nat):v.pure=true→VR D' w γ' v u:=by
 induction h with
 |undef u=>exact fun _=> .undef u
 |skip=>exact fun _=> .skip
 |int k n=>exact fun _=> .int k n
 |bool b=>exact fun _=> .bool b
 |anyb b=>exact fun _=> .anyb b
 |csl p n cap a hle _ ih=>exact fun hp=>by simp[V.pure]at hp
 |mp p q _ ih=>exact fun hp=> .mp p q (ih (by simpa [V.pure]using hp))
 |agg cs us hl _ ih=>exact fun hp=> .agg cs us hl fun i v u hv hu=>ih i v u hv hu (pureAll_mem (by simpa [V.pure]using hp) v (List.mem_of_getElem? hv))
 |tup cs us hl _ ih=>exact fun hp=> .tup cs us hl fun i v u hv hu=>ih i v u hv hu (pureAll_mem (by simpa [V.pure]using hp) v (List.mem_of_getElem? hv))
 |nilp=>exact fun _=> .nilp
 |ptr d l off b hd hb=>exact fun hp=>by simp[V.pure]at hp
 |ep cs b off _ hc hno _ ih=>exact fun hp=>by simp[V.pure]at hp
 |slnil c sz hcap=>exact fun hp=>by simp[V.pure]at hp;subst hp;exact .slnil _ _ trivial
 |sl0 c sz a cap hcap=>exact fun hp=>by simp[V.pure]at hp;subst hp;exact .sl0 _ _ a cap trivial
 |sl c sz es b off cap hsz hp hle hcap hc hno _ ih=>
   intro hpu
   simp[V.pure]at hpu;subst hpu
   exact .sl _ sz es b off cap hsz hp hle trivial hc (fun i cs j v h1 h2 ho=>hno i cs j v h1 h2 (own _ _ ho)) fun i cs j v u h1 h2 hu=>ih i cs j v u h1 h2 hu (elemAll_mem (hp cs (List.mem_of_getElem? h1)) v (List.mem_of_getElem? h2)).1
 |fn f first cap us ws h1 h2 _ _ i1 i2=>
   intro hp
   simp[V.pure]at hp
   exact .fn f first cap us ws h1 h2 (fun i v u hv hu=>i1 i v u hv hu (pureAll_mem hp.1 v (List.mem_of_getElem? hv))) (fun i v u hv hu=>i2 i v u hv hu (pureAll_mem hp.2 v (List.mem_of_getElem? hv)))
 |nilf=>exact fun _=> .nilf
 |yld d l b hd hb=>exact fun hp=>by simp[V.pure]at hp
 |asl d l sz n off len b k hd hb hle hk=>exact fun hp=>by simp[V.pure]at hp
 |aslnil d l sz base hd hb=>exact fun hp=>by simp[V.pure]at hp
 |aslold d l sz n off len N blk base ln cp hd hb hn=>exact fun hp=>by simp[V.pure]at hp
 |eptr d l n i j b sz k hd hb=>exact fun hp=>by simp[V.pure]at hp
 |eptrold d l n i j N blk p hd hb hn=>exact fun hp=>by simp[V.pure]at hp
 |aslh d l sz n off len lo N f hd hb hn hle hk=>exact fun hp=>by simp[V.pure]at hp
 |eptrh d l n i j sz lo N f hd hb hn=>exact fun hp=>by simp[V.pure]at hp
 |aslho d l sz n off len lo N sz' f base ln cp hd hb hn=>exact fun hp=>by simp[V.pure]at hp
 |eptrho d l n i j lo N sz' f p hd hb hn=>exact fun hp=>by simp[V.pure]at hp
structure RenOk(r:Ren)(D:Nat)(w:World)(γ:G)(D':Nat)(γ':G):Prop where
 p: ∀d l o u,VR D w γ (.ptr d l o) u→VR D' w γ' (r.p d l o) u
 c: ∀c sz base len cap,capOk D γ c sz base len cap→capOk D' γ' (r.c c) sz base len cap
 y: ∀d l u,VR D w γ (.yld d l) u→VR D' w γ' (r.y d l) u
 a: ∀d l z n o k u,VR D w γ (.asl d l z n o k) u→VR D' w γ' (r.a d l z n o k) u
 e: ∀d l n i j u,VR D w γ (.eptr d l n i j) u→VR D' w γ' (r.e d l n i j) u
 own: ∀b off,Own γ' b off→Own γ b off
section
variable {r : Ren} {D D' : Nat} {w : World} {γ γ' : G}
mutual
theorem VR.map'(ok:RenOk r D w γ D' γ'): ∀(v:V) (u:Value),VR D w γ v u→VR D' w γ' (v.map r) u
 | .agg cs,u,h=>by
   obtain⟨us,rfl,hl⟩:=h.agg_inv
   have:=VR.agg_mk (LR.map' ok cs us.toList hl)
   simpa [V.map]using this
 | .tup cs,u,h=>by
   obtain⟨us,rfl,hl⟩:=h.tup_inv
   have:=VR.tup_mk (LR.map' ok cs us.toList hl)
   simpa [V.map]using this
 | .sl c z es,u,h=>by
   simp only[V.map]
   cases h with
   |slnil _ _ hc=>exact .slnil _ _ (ok.c _ _ _ _ _ hc)
   |sl0 _ _ a k hc=>exact .sl0 _ _ a k (ok.c _ _ _ _ _ hc)
   |sl _ _ _ b off k hsz hp hle hcap hc hno h=>
     refine .sl _ _ _ b off k hsz hp hle (ok.c _ _ _ _ _ hcap) hc (fun i cs j v h1 h2 ho=>hno i cs j v h1 h2 (ok.own _ _ ho)) (fun i cs j v u h1 h2 hu=> ?_)
     have hel:=elemAll_mem (hp cs (List.mem_of_getElem? h1)) v (List.mem_of_getElem? h2)
     exact(h i cs j v u h1 h2 hu).pureOwn ok.own _ hel.1
 | .fn f as bs,u,h=>by
   cases h with
   |fn _ _ _ us ws h1 h2 k1 k2=>
     have e1:=LR.map' ok as us.toList ⟨by simpa using h1,fun i v u hv hu=>k1 i v u hv (by simpa using hu)⟩
     have e2:=LR.map' ok bs ws.toList ⟨by simpa using h2,fun i v u hv hu=>k2 i v u hv (by simpa using hu)⟩
     have:=VR.fn_mk (f:=f) e1 e2
     simpa [V.map]using this
 | .undef,u,h=> .undef u
 | .skip,u,h=>by cases h;exact .skip
 | .int k n,u,h=>by cases h;exact .int k n
 | .bool b,u,h=>by cases h;exact .bool b
 | .anyb,u,h=>by cases h;exact .anyb _
 | .csl p n,u,h=>by
   cases h with
   |csl _ _ cap a hle h=>simpa only[V.map]using VR.csl _ n cap a hle (VR.map' ok p _ h)
 | .mp p,u,h=>by
   cases h with
   |mp _ q h=>simpa only[V.map]using VR.mp _ q (VR.map' ok p _ h)
 | .nilp,u,h=>by cases h;exact .nilp
 | .ptr d l o,u,h=>by simpa only[V.map]using ok.p d l o u h
 | .ep cs,u,h=>by
   simp only[V.map]
   cases h with
   |ep _ b off hp hc hno h=>
     exact .ep cs b off hp hc (fun i v hv ho=>hno i v hv (ok.own _ _ ho)) (fun i v u hv hu=>(h i v u hv hu).pureOwn ok.own _ (pureAll_mem hp v (List.mem_of_getElem? hv)))
 | .nilf,u,h=>by cases h;exact .nilf
 | .yld d l,u,h=>by simpa only[V.map]using ok.y d l u h
 | .asl d l z n o k,u,h=>by simpa only[V.map]using ok.a d l z n o k u h
 | .eptr d l n i j,u,h=>by simpa only[V.map]using ok.e d l n i j u h
theorem LR.map'(ok:RenOk r D w γ D' γ'): ∀(vs:List V) (us:List Value),LR D w γ vs us→LR D' w γ' (V.mapAll r vs) us
 |[],us,h=>⟨h.1,fun i v u hv=>by simp[V.mapAll]at hv⟩
 |v::t,us,h=>by
   obtain⟨u,us',rfl,h1,h2⟩:=h.inv
   exact LR.cons (VR.map' ok v u h1) (LR.map' ok t us' h2)
end
theorem env_ren(e:Env)(t:Nat):(Env.ren r e).get t=(e.get t).map r:=by
 induction e with
 |nil=>rfl
 |cons x l ih=>
   obtain⟨k,v⟩:=x
   simp only[Env.ren,List.map_cons,Env.get]
   split
   ·rfl
   ·exact ih
theorem ER.map(ok:RenOk r D w γ D' γ') {e:Env} {a:Act}(h:ER D w γ e a):ER D' w γ' (Env.ren r e) a:=fun t=>by
 rw[env_ren];exact VR.map' ok _ _ (h t)
theorem mapAll_length: ∀(vs:List V),(V.mapAll r vs).length=vs.length
 |[]=>rfl
 |_::t=>by simp[V.mapAll,mapAll_length t]
theorem mapAll_get: ∀(vs:List V) (i:Nat),(V.mapAll r vs)[i]? =(vs[i]?).map (V.map r)
 |[],i=>by simp[V.mapAll]
 |v::t,0=>by simp[V.mapAll]
 |v::t,i+1=>by simp[V.mapAll,mapAll_get t i]
theorem EnR.map {K:KK} {d l d' l':Nat} {x:Entry}(h:EnR K w γ d l x)(ok:RenOk r (d+1) w γ (d'+1) γ')(hg: ∀g,γ d l=some g→γ' d' l'=some g):EnR K w γ' d' l' (x.map r):=by
 cases x with
 |cell cs=>
   obtain⟨b,c,e,h1,h2,h3⟩:=h
   exact⟨b,c,e,hg _ h1,h2,LR.map' ok _ _ h3⟩
 |tok n=>
   obtain⟨blk,h1,h2⟩:=h
   exact⟨blk,hg _ h1,h2⟩
 |harr lo sz es=>
   obtain⟨f,h1,h0,hz,hlo,hc,h2⟩:=h
   refine⟨f,hg _ h1,h0,hz,hlo,hc,fun m m1 m2=> ?_⟩
   obtain⟨h7,h3,h8⟩:=h2 m m1 m2
   refine⟨h7,?_,fun i cs j v k0 k1 k2=> ?_⟩
   ·rcases h3 with h3|h3
    ·exact .inl h3
    ·exact .inr ⟨h3.1,fun off ho=>h3.2 off (ok.own _ _ ho)⟩
   ·obtain⟨u,k3,k4⟩:=h8 i cs j v k0 k1 k2
    exact⟨u,k3,k4.pureOwn ok.own _ (elemAll_mem (h0 cs (List.mem_of_getElem? k1)).2 v (List.mem_of_getElem? k2)).1⟩
 |mp t kvs=>
   obtain⟨b,h1,h2⟩:=h
   exact⟨b,hg _ h1,h2⟩
 |arr sz es=>
   obtain⟨blk,h1,h0,h2⟩:=h
   refine⟨blk,by rw[List.length_map];exact hg _ h1,fun cs hc=> ?_,?_⟩
   ·obtain⟨c0,hc0,rfl⟩:=List.mem_map.1 hc
    rw[mapAll_length];exact h0 c0 hc0
   ·cases blk with
    |none=>have h2:es=[]:=h2;subst h2;rfl
    |some y=>
      obtain⟨b,sz',k⟩:=y
      obtain⟨e1,c,e,h3,h4,h5,h6,h7,h8⟩:=h2
      refine⟨e1,c,e,h3,by simpa using h4,h5,h6,h7,fun i cs j v u k1 k2 k3=> ?_⟩
      rw[List.getElem?_map]at k1
      obtain⟨c0,k4,rfl⟩:=Option.map_eq_some_iff.1 k1
      rw[mapAll_get]at k2
      obtain⟨v0,k5,rfl⟩:=Option.map_eq_some_iff.1 k2
      exact VR.map' ok _ _ (h8 i c0 j v0 u k4 k5 k3)
 |loop ps A B env o p=>
   obtain⟨b,q,h1,h2,h3,h4,h5⟩:=h
   exact⟨b,q,hg _ h1,h2,h3,fun t=>by rw[env_ren];exact VR.map' ok _ _ (h4 t),h5⟩
end
def idR:Ren:=⟨.ptr,id, .yld, .asl, .eptr⟩
mutual
theorem map_id: ∀(v:V),v.map idR=v
 | .agg cs=>by simp[V.map,mapAll_id cs]
 | .tup cs=>by simp[V.map,mapAll_id cs]
 | .fn f a b=>by simp[V.map,mapAll_id a,mapAll_id b]
 | .csl p n=>by simp[V.map,map_id p]
 | .mp p=>by simp[V.map,map_id p]
 | .sl _ _ _| .undef| .skip| .int _ _| .bool _| .nilp| .ptr _ _ _| .ep _| .nilf| .yld _ _| .asl _ _ _ _ _ _| .eptr _ _ _ _ _| .anyb=>by simp[V.map,idR]
theorem mapAll_id: ∀(vs:List V),V.mapAll idR vs=vs
 |[]=>rfl
 |v::t=>by simp[V.mapAll,map_id v,mapAll_id t]
end
theorem ent_id(x:Entry):x.map idR=x:=by
 cases x with
 |cell cs=>simp[Entry.map,mapAll_id]
 |tok n=>rfl
 |arr z es=>
   have:V.mapAll idR=id:=funext mapAll_id
   simp[Entry.map,this]
 |harr lo z es=>rfl
 |mp t kvs=>rfl
 |loop ps a b env o p=>
   simp only[Entry.map,Env.ren]
   congr 1
   have:(fun x:Nat×V=>(x.1,x.2.map idR))=id:=by funext x;simp[map_id]
   rw[this];simp
theorem RenOk.id {D D':Nat} {w:World} {γ γ':G}(hD:D≤D')(hg: ∀(d l:Nat) g,d<D→γ d l=some g→γ' d l=some g)(ho: ∀b off,Own γ' b off→Own γ b off):RenOk idR D w γ D' γ' where
 p:=fun d l o u h=>by
  cases h with
  |ptr _ _ _ b hd hb=>exact .ptr _ _ _ b (by omega) (hg d l _ hd hb)
 c:=fun c sz base len cap h=>by
  cases c with
  |no=>trivial
  |full=>exact h
  |own d l=>
    obtain⟨hd,n,blk,h1,h2⟩:=h
    exact⟨by omega,n,blk,hg d l _ hd h1,h2⟩
 y:=fun d l u h=>by
  cases h with
  |yld _ _ b hd hb=>exact .yld _ _ b (by omega) (hg d l _ hd hb)
 a:=fun d l z n o k u h=>by
  cases h with
  |asl _ _ _ _ _ _ b k hd hb hle hk=>exact .asl _ _ _ _ _ _ b k (by omega) (hg d l _ hd hb) hle hk
  |aslnil _ _ _ base hd hb=>exact .aslnil _ _ _ base (by omega) (hg d l _ hd hb)
  |aslold _ _ _ _ _ _ N blk base ln cp hd hb hn2=>exact .aslold _ _ _ _ _ _ N blk base ln cp (by omega) (hg d l _ hd hb) hn2
  |aslh _ _ _ _ _ _ lo N f hd hb hn2 hle hk=>exact .aslh _ _ _ _ _ _ lo N f (by omega) (hg d l _ hd hb) hn2 hle hk
  |aslho _ _ _ _ _ _ lo N sz' f base ln cp hd hb hn2=>exact .aslho _ _ _ _ _ _ lo N sz' f base ln cp (by omega) (hg d l _ hd hb) hn2
 e:=fun d l n i j u h=>by
  cases h with
  |eptr _ _ _ _ _ b sz k hd hb=>exact .eptr _ _ _ _ _ b sz k (by omega) (hg d l _ hd hb)
  |eptrold _ _ _ _ _ N blk p hd hb hn2=>exact .eptrold _ _ _ _ _ N blk p (by omega) (hg d l _ hd hb) hn2
  |eptrh _ _ _ _ _ sz lo N f hd hb hn2=>exact .eptrh _ _ _ _ _ sz lo N f (by omega) (hg d l _ hd hb) hn2
  |eptrho _ _ _ _ _ lo N sz' f p hd hb hn2=>exact .eptrho _ _ _ _ _ lo N sz' f p (by omega) (hg d l _ hd hb) hn2
 own:=ho
theorem VR.restrict {D D':Nat} {w:World} {γ γ':G} {v:V} {u:Value}(h:VR D w γ v u)(hD:D≤D')(hg: ∀(d l:Nat) g,d<D→γ d l=some g→γ' d l=some g)(ho: ∀b off,Own γ' b off→Own γ b off):VR D' w γ' v u:=by
 have:=VR.map' (RenOk.id hD hg ho) v u h
 rwa [map_id]at this
theorem EnR.restrict {K:KK} {d l:Nat} {w:World} {γ γ':G} {x:Entry}(h:EnR K w γ d l x)(hg: ∀(d' l':Nat) g,d'≤d→γ d' l'=some g→γ' d' l'=some g)(ho: ∀b off,Own γ' b off→Own γ b off):EnR K w γ' d l x:=by
 have:=EnR.map (d':=d) (l':=l) h (RenOk.id (Nat.le_refl _) (fun d' l' g h'=>hg d' l' g (by omega)) ho) (fun g=>hg d l g (Nat.le_refl _))
 rwa [ent_id]at this
def G.drop(γ:G)(d:Nat)(keep:List Nat):G:=fun d' l=>if d'=some d∧l∉keep then none else γ d' l
theorem G.drop_eq {γ:G} {d:Nat} {keep:List Nat} {d' l:Nat}(h: ¬(d'=d∧l∉keep)):γ.drop d keep d' l=γ d' l:=by
 simp only[G.drop];rw[if_neg (by rintro⟨e,h2⟩;cases e;exact h ⟨rfl,h2⟩)]
theorem G.drop_none {γ:G} {d:Nat} {keep:List Nat} {l:Nat}:γ.drop d keep none l=γ none l:=by simp[G.drop]
theorem G.drop_some {γ:G} {d:Nat} {keep:List Nat} {d':Option Nat} {l:Nat} {g:GE}(h:γ.drop d keep d' l=some g):γ d' l=some g:=by
 unfold G.drop at h
 split at h
 ·cases h
 ·exact h
theorem own_drop {γ:G} {d:Nat} {keep:List Nat}: ∀b off,Own (γ.drop d keep) b off→Own γ b off:=by
 rintro b off ⟨d',l,g,h1,h2⟩
 exact⟨d',l,g,G.drop_some h1,h2⟩
theorem RenOk.drop {D:Nat} {w:World} {γ:G} {d:Nat} {keep:List Nat}:RenOk (dropR d keep) D w γ D (γ.drop d keep) where
 p:=fun d' l o u h=>by
  simp only[dropR]
  split
  ·exact .undef _
  ·rename_i hn
   cases h with
   |ptr _ _ _ b hd hb=>exact .ptr _ _ _ b hd ((G.drop_eq hn).trans hb)
 c:=fun c sz base len cap h=>by
  cases c with
  |no=>trivial
  |full=>exact h
  |own d' l=>
    simp only[dropR,Cap.drop]
    split
    ·trivial
    ·rename_i hn
     obtain⟨hd,n,blk,h1,h2⟩:=h
     exact⟨hd,n,blk,(G.drop_eq hn).trans h1,h2⟩
 y:=fun d' l u h=>by
  simp only[dropR]
  split
  ·exact .undef _
  ·rename_i hn
   cases h with
   |yld _ _ b hd hb=>exact .yld _ _ b hd ((G.drop_eq hn).trans hb)
 a:=fun d' l z n o k u h=>by
  simp only[dropR]
  split
  ·exact .undef _
  ·rename_i hn
   cases h with
   |asl _ _ _ _ _ _ b k hd hb hle hk=>exact .asl _ _ _ _ _ _ b k hd ((G.drop_eq hn).trans hb) hle hk
   |aslnil _ _ _ base hd hb=>exact .aslnil _ _ _ base hd ((G.drop_eq hn).trans hb)
   |aslold _ _ _ _ _ _ N blk base ln cp hd hb hn2=>exact .aslold _ _ _ _ _ _ N blk base ln cp hd ((G.drop_eq hn).trans hb) hn2
   |aslh _ _ _ _ _ _ lo N f hd hb hn2 hle hk=>exact .aslh _ _ _ _ _ _ lo N f hd ((G.drop_eq hn).trans hb) hn2 hle hk
   |aslho _ _ _ _ _ _ lo N sz' f base ln cp hd hb hn2=>exact .aslho _ _ _ _ _ _ lo N sz' f base ln cp hd ((G.drop_eq hn).trans hb) hn2
 e:=fun d' l n i j u h=>by
  simp only[dropR]
  split
  ·exact .undef _
  ·rename_i hn
   cases h with
   |eptr _ _ _ _ _ b sz k hd hb=>exact .eptr _ _ _ _ _ b sz k hd ((G.drop_eq hn).trans hb)
   |eptrold _ _ _ _ _ N blk p hd hb hn2=>exact .eptrold _ _ _ _ _ N blk p hd ((G.drop_eq hn).trans hb) hn2
   |eptrh _ _ _ _ _ sz lo N f hd hb hn2=>exact .eptrh _ _ _ _ _ sz lo N f hd ((G.drop_eq hn).trans hb) hn2
   |eptrho _ _ _ _ _ lo N sz' f p hd hb hn2=>exact .eptrho _ _ _ _ _ lo N sz' f p hd ((G.drop_eq hn).trans hb) hn2
 own:=own_drop
theorem lget_ren(r:Ren)(loc:Loc)(l:Nat):(Loc.ren r loc).get l=(loc.get l).map (Entry.map r):=by
 induction loc with
 |nil=>rfl
 |cons x t ih=>
   obtain⟨k,x⟩:=x
   simp only[Loc.ren,List.map_cons,Loc.get]
   split
   ·rfl
   ·exact ih
theorem lget_filter(keep:List Nat)(loc:Loc)(l:Nat):Loc.get (loc.filter fun x=>keep.contains x.1) l=if l∈keep then loc.get l else none:=by
 induction loc with
 |nil=>simp[Loc.get]
 |cons x t ih=>
   obtain⟨k,x⟩:=x
   simp only[List.filter_cons]
   split
   ·rename_i hk
    simp only[Loc.get]
    split
    ·rename_i h;subst h;rw[if_pos (by simpa using hk)]
    ·exact ih
   ·rename_i hk
    rw[ih]
    simp only[Loc.get]
    split
    ·split
     ·rename_i h1 h2;subst h2;exact absurd h1 (by simpa using hk)
     ·rfl
    ·rfl
theorem sget_lt {s:Stk} {d l:Nat} {x:Entry}(h:sget s d l=some x):d<s.length:=by
 apply Nat.lt_of_not_le;intro hle;rw[sget_none hle]at h;cases h
theorem SR.gc {K:KK} {s:Stk} {w:World} {γ:G}(h:SR K s w γ)(keep:List Nat):SR K (gcStk keep s) w (γ.drop (dep s) keep):=by
 cases s with
 |nil=>
   refine⟨fun d l x hx=>by simp[gcStk,sget]at hx,fun d l _=> ?_,fun d l g d' l' g' b h1 h2=>h.inj d l g d' l' g' b (G.drop_some h1) (G.drop_some h2),fun l g b h1=>h.frn l g b (G.drop_some h1)⟩
   unfold G.drop;split
   ·rfl
   ·exact h.none d l rfl
 |cons loc r=>
   have hdep:dep (loc::r)=r.length:=by simp[dep]
   rw[hdep]
   refine⟨fun d l x hx=> ?_,fun d l hx=> ?_,fun d l g d' l' g' b h1 h2=>h.inj d l g d' l' g' b (G.drop_some h1) (G.drop_some h2),fun l g b h1=>h.frn l g b (G.drop_some h1)⟩
   ·simp only[gcStk,sget]at hx
    split at hx
    ·rename_i hd
     subst hd
     rw[Loc.gc,lget_ren,lget_filter]at hx
     split at hx
     ·rename_i hk
      obtain⟨y,hy,rfl⟩:=Option.map_eq_some_iff.1 hx
      have he:=h.ent r.length l y (by simp[sget,hy])
      exact EnR.map he RenOk.drop (fun g h=>(G.drop_eq (by simp[hk])).trans h)
     ·cases hx
    ·rename_i hd
     have he:=h.ent d l x (by simp[sget,hd,hx])
     have hlt:=sget_lt hx
     exact he.restrict (fun d' l' g h' h=>(G.drop_eq (by omega)).trans h) own_drop
   ·simp only[gcStk,sget]at hx
    split at hx
    ·rename_i hd
     subst hd
     rw[Loc.gc,lget_ren,lget_filter]at hx
     unfold G.drop
     split
     ·rfl
     ·rename_i hk
      have hk':l∈keep:=by
       by_cases hm:l∈keep
       ·exact hm
       ·exact absurd ⟨rfl,hm⟩ hk
      rw[if_pos hk']at hx
      exact h.none _ l (by simpa [sget]using hx)
    ·rename_i hd
     rw[G.drop_eq (by omega)]
     exact h.none d l (by simp[sget,hd,hx])
theorem gcStk_length(keep:List Nat)(s:Stk):(gcStk keep s).length=s.length:=by cases s<;>simp[gcStk]
theorem ER.gc {w:World} {γ:G} {e:Env} {a:Act} {s:Stk}(h:ER s.length w γ e a)(live keep:List Nat):ER s.length w (γ.drop (dep s) keep) (gcEnv live keep e s) a:=
 ER.map RenOk.drop (h.only live)
theorem Ext.drop {D:Nat} {w:World} {γ:G} {d:Nat} {keep:List Nat}(hD:D≤d):Ext D w γ w (γ.drop d keep):=by
 have hne: ∀ {d' l:Nat},d'<D→γ.drop d keep d' l=γ d' l:=fun h=>G.drop_eq (by omega)
 refine⟨rfl,rfl,rfl,Nat.le_refl _,Nat.le_refl _,fun d' l b h hb=>by rw[hne h];exact hb,fun d' l b h hb=>by rw[hne h];exact hb,fun d' l n blk h hb=>⟨n,blk,by rw[hne h];exact hb, .inl ⟨rfl,rfl⟩⟩,fun d' l lo N _ f h hb=>⟨lo,N,f,by rw[hne h];exact hb,Nat.le_refl _,Nat.le_refl _,fun _ _ _=>rfl⟩,fun d' l n blk h hb=>⟨n,blk,by rw[hne h];exact hb, .inl ⟨rfl,rfl⟩⟩,fun _ _ _ h _=>h,fun b off _ hno ho=>hno (own_drop b off ho),fun _ _ _=>rfl,fun _=>G.drop_none,fun _ _ _ _ _=>rfl⟩
end Go.Ab

/-
  Ghost steps: arrays that turn no more; the right to append.
-/
namespace Go.Ab
section
variable {K : KK} {s : Stk} {w : World} {γ : G} {e : Env} {a : Act}
def Ghost(K:KK)(_:Env)(s:Stk)(a:Act)(w:World)(γ:G)(e':Env)(s':Stk):Prop:=
 ∃γ',ER s'.length w γ' e' a∧SR K s' w γ'∧Ext (dep s) w γ w γ'∧s'.length=s.length∧ ∀b off,Own γ' b off→Own γ b off
theorem Ghost.refl(hE:ER s.length w γ e a)(hS:SR K s w γ):Ghost K e s a w γ e s:=⟨γ,hE,hS,Ext.refl _ _ _,rfl,fun _ _ h=>h⟩
theorem elemsOk_mem {es:List (List V)} {sz:Nat}(h:elemsOk es sz=true): ∀cs,cs∈es→V.elemAll cs=true∧cs.length=sz:=by
 intro cs hc
 have:=List.all_eq_true.1 h cs hc
 simpa using this
theorem LR.pureOwn {D D':Nat} {γ γ':G}(own: ∀b off,Own γ' b off→Own γ b off) {vs:List V} {us:List Value}(h:LR D w γ vs us)(hp: ∀v,v∈vs→v.pure=true):LR D' w γ' vs us:=
 ⟨h.1,fun i v u hv hu=>(h.2 i v u hv hu).pureOwn own _ (hp v (List.mem_of_getElem? hv))⟩
theorem arr_frozen(hS:SR K s w γ) {d l:Nat} {z q f n:Nat} {u:Value}(h:VR s.length w γ (.asl d l z q f n) u) {sz:Nat} {es:List (List V)}(hg:sget s d l=some (.arr sz es))(hok:elemsOk (es.map V.stripAll) sz=true)(hq:q=es.length)(hn:f+n≤es.length)
 {D':Nat} {γ':G} (own: ∀b off,Own γ' b off→Own γ b off) (hno: ∀b sz k,γ d l=some (.arr q (some (b,sz,k)))→ ∀j,j<es.length*sz→ ¬Own γ' b j) {c:Cap}
 (hcap: ∀base cap,(∀b k,γ d l=some (.arr q (some (b,z,k)))→base=some ⟨b,f*z,none⟩∧cap=k-f)→(γ d l=some (.arr 0 none)→n=0∧cap=0∧q=0)→capOk D' γ' c z base n cap):
 z=sz→VR D' w γ' (.sl c sz (((es.map V.stripAll).drop f).take n)) u:=by
 rintro rfl
 have hlen:(((es.map V.stripAll).drop f).take n).length=n:=by simp;omega
 have hread:=arr_read hS h hg hq hn
 have hmem: ∀cs,cs∈((es.map V.stripAll).drop f).take n→V.elemAll cs=true∧cs.length=z:=fun cs hc=>elemsOk_mem hok cs (List.mem_of_mem_drop (List.mem_of_mem_take hc))
 have hal:aliveE q (sget s d l)=true:=by rw[hg];simp[aliveE,hq]
 rcases alive_asl hS h hal with ⟨hd,⟨base,rfl,hq0,rfl,rfl,hb⟩|⟨b,k,rfl,hb,hle,hk⟩⟩
 ·have hc0:=hcap base 0 (fun b k h=>by rw[hb]at h;cases h) (fun _=>⟨rfl,rfl,hq0⟩)
  simp only[List.take_zero]
  exact VR.sl_empty hc0 (fun _=>rfl)
 ·replace hb:=hb.2.2 ⟨_,_,hg⟩
  have hc0:=hcap (some ⟨b,f*z,none⟩) (k-f) (fun b' k' h=>by rw[hb]at h;cases h;exact⟨rfl,rfl⟩) (fun h=>by rw[hb]at h;cases h)
  rcases hread with ⟨h1,h2⟩|⟨b',off,cap,us,h1,h2,h3,h4,_⟩
  ·have h0:n=0:=by rw[←hlen,h2];rfl
   subst h0
   simp only[List.take_zero]
   exact .sl c z [] b (f*z) (k-f) (by simp) (by simp) (Nat.zero_le _) hc0 (fun i cs j v hi=>by simp at hi) (fun i cs j v hi=>by simp at hi) (fun i cs j v u hi=>by simp at hi)
  ·rw[hlen]at h1
   cases h1
   have hp: ∀v,v∈(((es.map V.stripAll).drop f).take n).flatten→v.pure=true:=fun v hv=>by
    obtain⟨cs,hc,hv⟩:=List.mem_flatten.1 hv
    exact(elemAll_mem (hmem cs hc).1 v hv).1
   have:=VR.sl_mk (D:=D') (w:=w) (γ:=γ') (c:=c) (sz:=z) (es:=((es.map V.stripAll).drop f).take n) (b:=b) (off:=f*z) (cap:=k-f) (us:=us) (fun cs hc=>(hmem cs hc).2) (fun cs hc=>(hmem cs hc).1) (by rw[hlen];omega)
    (by rw[hlen];exact hc0) (h3.pureOwn own hp) h4 (fun j hj=>by
     refine hno b z k hb _ ?_
     rw[←h3.1,flatten_len _ (fun cs hc=>(hmem cs hc).2),hlen]at hj
     have:=Nat.mul_le_mul_right z hn
     rw[Nat.add_mul]at this
     omega)
   rwa [hlen]at this
theorem strip_get: ∀(vs:List V) (j:Nat),(V.stripAll vs)[j]? =(vs[j]?).map V.strip
 |[],j=>by simp[V.stripAll]
 |v::r,0=>by simp[V.stripAll]
 |v::r,j+1=>by simp[V.stripAll,strip_get r j]
theorem grows_ok(hE:ER s.length w γ e a)(hS:SR K s w γ)(l:Nat):Ghost K e s a w γ (grows l e s).1 (grows l e s).2:=by
 cases s with
 |nil=>exact Ghost.refl hE hS
 |cons loc r=>
   simp only[grows]
   cases hl:loc.get l with
   |none=>exact Ghost.refl hE hS
   |some x=>
     cases x with
     |arr sz es=>
       dsimp only
       split
       ·rename_i hc
        obtain⟨hok,hne⟩:=hc
        have hg:sget (loc::r) r.length l=some (.arr sz es):=by simp[sget,hl]
        obtain⟨blk,h1,h0,h2⟩:=hS.ent _ _ _ hg
        obtain⟨b,k,rfl⟩: ∃b k,blk=some (b,sz,k):=by
         cases blk with
         |none=>exact absurd h2 hne
         |some y=>obtain⟨b,sz',k⟩:=y;obtain⟨rfl,_⟩:=h2;exact⟨b,k,rfl⟩
        obtain⟨_,c,el,q3,q4,q5,q6,q7,q8⟩:=h2
        obtain⟨γ',hγ⟩: ∃γ':G,γ'=γ.set r.length l (.harr es.length es.length sz (fun _=>(b,k))):=⟨_,rfl⟩
        have hsame:γ' r.length l=some (.harr es.length es.length sz (fun _=>(b,k))):=by rw[hγ,G.set_same]
        have hoth': ∀ {d':Option Nat} {l'},¬(d'=some r.length∧l'=l)→γ' d' l'=γ d' l':=fun h=>by rw[hγ,G.set_other' γ _ h]
        have hoth: ∀ {d' l':Nat},¬(d'=r.length∧l'=l)→γ' d' l'=γ d' l':=fun h=>hoth' (by rintro⟨e,e2⟩;cases e;exact h ⟨rfl,e2⟩)
        have own: ∀b off,Own γ' b off→Own γ b off:=by
         rintro b1 off ⟨d',l',g,k1,k2⟩
         by_cases e:d'=some r.length∧l'=l
         ·obtain⟨rfl,rfl⟩:=e
          rw[hsame]at k1;cases k1
          exact⟨_,_,_,h1,by simpa [GE.owns]using k2⟩
         ·rw[hoth' e]at k1
          exact⟨d',l',g,k1,k2⟩
        have old: ∀ {d' l':Nat} {g:GE},γ d' l'=some g→(∀n x,g≠ .arr n x)→γ' d' l'=some g:=by
         intro d' l' g hg' hna
         rw[hoth];exact hg'
         rintro⟨rfl,rfl⟩
         rw[h1]at hg';cases hg'
         exact hna _ _ rfl
        have ok: ∀D,RenOk idR D w γ D γ':=fun D=>
         { p := fun d' l' o u h => by
            cases h with
            |ptr _ _ _ b hd hb=>exact .ptr _ _ _ b hd (old hb (by rintro _ _ ⟨⟩))
           c:=fun c sz base len cap h=>by
            cases c with
            |no=>trivial
            |full=>exact h
            |own d' l'=>
              obtain⟨hd,n,blk,k1,k2⟩:=h
              exact⟨hd,n,blk,old k1 (by rintro _ _ ⟨⟩),k2⟩
           y:=fun d' l' u h=>by
            cases h with
            |yld _ _ b hd hb=>exact .yld _ _ b hd (old hb (by rintro _ _ ⟨⟩))
           a:=fun d' l' z n o k' u h=>by
            simp only[idR]
            by_cases e:d'=r.length∧l'=l
            ·obtain⟨rfl,rfl⟩:=e
             cases h with
             |asl _ _ _ _ _ _ b' k' hd hb hle hk=>
               rw[h1]at hb;cases hb
               exact .aslh _ _ _ _ _ _ es.length es.length (fun _=>(b,k)) hd hsame ⟨Nat.le_refl _,Nat.le_refl _⟩ hle hk
             |aslnil _ _ _ base hd hb=>rw[h1]at hb;simp at hb
             |aslold _ _ _ _ _ _ N blk base ln cp hd hb hn2=>
               rw[h1]at hb;cases hb
               exact .aslho _ _ _ _ _ _ es.length es.length _ (fun _=>(b,k)) base ln cp hd hsame hn2
             |aslh _ _ _ _ _ _ lo N f hd hb=>rw[h1]at hb;cases hb
             |aslho _ _ _ _ _ _ lo N sz' f base ln cp hd hb=>rw[h1]at hb;cases hb
            ·cases h with
             |asl _ _ _ _ _ _ b k hd hb hle hk=>exact .asl _ _ _ _ _ _ b k hd ((hoth e).trans hb) hle hk
             |aslnil _ _ _ base hd hb=>exact .aslnil _ _ _ base hd ((hoth e).trans hb)
             |aslold _ _ _ _ _ _ N blk base ln cp hd hb hn2=>exact .aslold _ _ _ _ _ _ N blk base ln cp hd ((hoth e).trans hb) hn2
             |aslh _ _ _ _ _ _ lo N f hd hb hn2 hle hk=>exact .aslh _ _ _ _ _ _ lo N f hd ((hoth e).trans hb) hn2 hle hk
             |aslho _ _ _ _ _ _ lo N sz' f base ln cp hd hb hn2=>exact .aslho _ _ _ _ _ _ lo N sz' f base ln cp hd ((hoth e).trans hb) hn2
           e:=fun d' l' n i j u h=>by
            simp only[idR]
            by_cases e:d'=r.length∧l'=l
            ·obtain⟨rfl,rfl⟩:=e
             cases h with
             |eptr _ _ _ _ _ b' sz' k' hd hb=>
               rw[h1]at hb;cases hb
               exact .eptrh _ _ _ _ _ sz es.length es.length (fun _=>(b,k)) hd hsame ⟨Nat.le_refl _,Nat.le_refl _⟩
             |eptrold _ _ _ _ _ N blk p hd hb hn2=>
               rw[h1]at hb;cases hb
               exact .eptrho _ _ _ _ _ es.length es.length sz (fun _=>(b,k)) p hd hsame hn2
             |eptrh _ _ _ _ _ sz lo N f hd hb=>rw[h1]at hb;cases hb
             |eptrho _ _ _ _ _ lo N sz' f p hd hb=>rw[h1]at hb;cases hb
            ·cases h with
             |eptr _ _ _ _ _ b sz k hd hb=>exact .eptr _ _ _ _ _ b sz k hd ((hoth e).trans hb)
             |eptrold _ _ _ _ _ N blk p hd hb hn2=>exact .eptrold _ _ _ _ _ N blk p hd ((hoth e).trans hb) hn2
             |eptrh _ _ _ _ _ sz lo N f hd hb hn2=>exact .eptrh _ _ _ _ _ sz lo N f hd ((hoth e).trans hb) hn2
             |eptrho _ _ _ _ _ lo N sz' f p hd hb hn2=>exact .eptrho _ _ _ _ _ lo N sz' f p hd ((hoth e).trans hb) hn2
           own:=own}
        have hvr: ∀ {D:Nat} {v:V} {u:Value},VR D w γ v u→VR D w γ' v u:=fun {D v u} h=>by
         have:=VR.map' (ok D) v u h
         rwa [map_id]at this
        have hblt:b<w.heap.size:=(Array.getElem?_eq_some_iff.1 q3).1
        refine⟨γ',fun t=>hvr (hE t),⟨fun d' l' x hx=> ?_,fun d' l' hx=> ?_,?_,fun l' g b h=>hS.frn l' g b (by rwa [hoth' (by rintro⟨e,_⟩;cases e)]at h)⟩,?_,rfl,own⟩
        ·by_cases e:d'=r.length∧l'=l
         ·obtain⟨rfl,rfl⟩:=e
          simp only[sget,if_true]at hx
          rw[lget_put_same]at hx
          cases hx
          have e9:(es.map V.stripAll).length=es.length:=List.length_map _
          refine⟨fun _=>(b,k),by rw[e9];exact hsame,fun cs hcs=> ?_,q6,by rw[e9];exact Nat.le_refl _,⟨c,el,q3,q5,q7⟩,fun m m1 m2=>⟨Nat.le_trans (by rw[e9]at m2;exact m2) q4, .inl rfl,fun i cs j v hi hcs hv=> ?_⟩⟩
          ·have:=elemsOk_mem hok cs hcs
           exact⟨this.2,this.1⟩
          ·rw[List.getElem?_map]at hcs
           obtain⟨cs0,hcs0,rfl⟩:=Option.map_eq_some_iff.1 hcs
           rw[strip_get]at hv
           obtain⟨v0,hv0,rfl⟩:=Option.map_eq_some_iff.1 hv
           have hj:j<sz:=by rw[←h0 cs0 (List.mem_of_getElem? hcs0)];exact(List.getElem?_eq_some_iff.1 hv0).1
           have hi':i<es.length:=(List.getElem?_eq_some_iff.1 hcs0).1
           have hlt:i*sz+j<c.size:=by
            have p1:=Nat.mul_le_mul_right sz (show i+1≤es.length from hi')
            have p2:=Nat.mul_le_mul_right sz q4
            rw[Nat.add_mul,Nat.one_mul]at p1
            rw[q5];omega
           have hcell:c[i*sz+j]? =some c[i*sz+j]:=Array.getElem?_eq_getElem hlt
           refine⟨c[i*sz+j],?_,hvr (VR.strip' _ _ (q8 i cs0 j v0 _ hcs0 hv0 hcell))⟩
           rw[cell_of_row w b _ c el (0,0) q3]
           exact hcell
         ·have hx':sget (loc::r) d' l'=some x:=by
           rw[←hx]
           simp only[sget]
           split
           ·rename_i hd;rw[lget_put_other];intro e2;exact e ⟨hd,e2⟩
           ·rfl
          have:=(hS.ent d' l' x hx').map (ok (d'+1)) (d':=d') (l':=l') (fun g hg'=>(hoth e).trans hg')
          rwa [ent_id]at this
        ·by_cases e:d'=r.length∧l'=l
         ·obtain⟨rfl,rfl⟩:=e
          simp only[sget,if_true]at hx
          rw[lget_put_same]at hx
          cases hx
         ·rw[hoth e]
          refine hS.none d' l' ?_
          rw[←hx]
          simp only[sget]
          split
          ·rename_i hd;rw[lget_put_other];intro e2;exact e ⟨hd,e2⟩
          ·rfl
        ·intro d1 l1 g1 d2 l2 g2 b0 k1 k2 b1 b2
         have pull: ∀ {d:Option Nat} {l' g},γ' d l'=some g→g.blk=some b0→ ∃g',γ d l'=some g'∧g'.blk=some b0:=by
          intro d l' g k kb
          by_cases e:d=some r.length∧l'=l
          ·obtain⟨rfl,rfl⟩:=e
           rw[hsame]at k;cases k
           exact⟨_,h1,by simpa [GE.blk]using kb⟩
          ·rw[hoth' e]at k;exact⟨g,k,kb⟩
         obtain⟨g1',k1',b1'⟩:=pull k1 b1
         obtain⟨g2',k2',b2'⟩:=pull k2 b2
         exact hS.inj d1 l1 g1' d2 l2 g2' b0 k1' k2' b1' b2'
        ·have hne: ∀ {d' l':Nat},d'<dep (loc::r)→γ' d' l'=γ d' l':=fun h=>hoth (by simp[dep]at h;omega)
         exact⟨rfl,rfl,rfl,Nat.le_refl _,Nat.le_refl _,fun d' l' b h hb=>by rw[hne h];exact hb,fun d' l' b h hb=>by rw[hne h];exact hb,fun d' l' n blk h hb=>⟨n,blk,by rw[hne h];exact hb, .inl ⟨rfl,rfl⟩⟩,fun d' l' lo N _ f h hb=>⟨lo,N,f,by rw[hne h];exact hb,Nat.le_refl _,Nat.le_refl _,fun _ _ _=>rfl⟩,fun d' l' n blk h hb=>⟨n,blk,by rw[hne h];exact hb, .inl ⟨rfl,rfl⟩⟩,fun _ _ _ h _=>h,fun b off _ hno ho=>hno (own b off ho),fun _ _ _=>rfl,fun _=>hoth' (by rintro⟨e,_⟩;cases e),fun _ _ _ _ _=>rfl⟩
       ·exact Ghost.refl hE hS
     |_=>exact Ghost.refl hE hS
theorem frz1_ok(hE:ER s.length w γ e a)(hS:SR K s w γ)(l:Nat):Ghost K e s a w γ (frz1 l e s).1 (frz1 l e s).2:=by
 unfold frz1
 split
 ·exact grows_ok hE hS _
 cases s with
 |nil=>exact Ghost.refl hE hS
 |cons loc r=>
   dsimp only
   cases hl:loc.get l with
   |none=>exact Ghost.refl hE hS
   |some x=>
     cases x with
     |arr sz es=>
       dsimp only
       split
       ·rename_i hok
        have hg:sget (loc::r) r.length l=some (.arr sz es):=by simp[sget,hl]
        obtain⟨blk,h1,h0,h2⟩:=hS.ent _ _ _ hg
        obtain⟨γ',hγ⟩: ∃γ':G,γ'=γ.set r.length l (.tok es.length blk):=⟨_,rfl⟩
        have hsame:γ' r.length l=some (.tok es.length blk):=by rw[hγ,G.set_same]
        have hoth': ∀ {d':Option Nat} {l'},¬(d'=some r.length∧l'=l)→γ' d' l'=γ d' l':=fun h=>by rw[hγ,G.set_other' γ _ h]
        have hoth: ∀ {d' l':Nat},¬(d'=r.length∧l'=l)→γ' d' l'=γ d' l':=fun h=>hoth' (by rintro⟨e,e2⟩;cases e;exact h ⟨rfl,e2⟩)
        have own: ∀b off,Own γ' b off→Own γ b off:=by
         rintro b off ⟨d',l',g,k1,k2⟩
         by_cases e:d'=some r.length∧l'=l
         ·obtain⟨rfl,rfl⟩:=e
          rw[hsame]at k1;cases k1
          refine⟨_,_,_,h1,?_⟩
          cases blk with
          |none=>exact k2.elim
          |some y=>obtain⟨b0,sz0,k0⟩:=y;simp[GE.owns]at k2⊢;exact k2.1
         ·rw[hoth' e]at k1
          exact⟨d',l',g,k1,k2⟩
        have hD:(loc::r).length=r.length+1:=rfl
        have hno: ∀b sz' k,γ r.length l=some (.arr es.length (some (b,sz',k)))→ ∀j,j<es.length*sz'→ ¬Own γ' b j:=by
         rintro b sz' k hb j hj ⟨d',l',g,k1,k2⟩
         rw[h1]at hb;cases hb
         by_cases e:d'=some r.length∧l'=l
         ·obtain⟨rfl,rfl⟩:=e
          rw[hsame]at k1;cases k1
          simp[GE.owns]at k2;omega
         ·rw[hoth' e]at k1
          exact e (hS.inj d' l' g r.length l _ b k1 h1 (GE.owns_blk k2) rfl)
        have ok:RenOk (frzR r.length l sz (es.map V.stripAll)) (r.length+1) w γ (r.length+1) γ':=
         { p := fun d' l' o u h => by
            cases h with
            |ptr _ _ _ b hd hb=>
              refine .ptr _ _ _ b hd ?_
              rw[hoth];exact hb
              rintro⟨rfl,rfl⟩
              rw[h1]at hb;cases hb
           c:=fun c sz base len cap h=>by
            cases c with
            |no=>trivial
            |full=>exact h
            |own d' l'=>
              obtain⟨hd,n,blk',k1,k2⟩:=h
              refine⟨hd,n,blk',?_,k2⟩
              rw[hoth];exact k1
              rintro⟨rfl,rfl⟩
              rw[h1]at k1;cases k1
           y:=fun d' l' u h=>by
            cases h with
            |yld _ _ b hd hb=>
              refine .yld _ _ b hd ?_
              rw[hoth];exact hb
              rintro⟨rfl,rfl⟩
              rw[h1]at hb;cases hb
           a:=fun d' l' z n o k u h=>by
            simp only[frzR]
            split
            ·rename_i e
             obtain⟨rfl,rfl⟩:=e
             split
             ·rename_i hc
              obtain⟨rfl,hq,hn⟩:=hc
              rw[List.length_map]at hq hn
              refine arr_frozen hS h hg hok hq hn own (fun b sz' k hb j hj=>hno b sz' k (by rw[←hq];exact hb) j hj) ?_ rfl
              intro base cap q1 q2
              split
              ·rename_i ho
               rw[List.length_map]at ho
               obtain⟨rfl,hko⟩:=ho
               refine⟨Nat.lt_succ_self _,es.length,blk,hsame,by omega,fun hnn=> ?_⟩
               cases blk with
               |none=>
                 have he:es=[]:=h2
                 obtain⟨q3,q4,_⟩:=q2 (by rw[h1,he];rfl)
                 simp only;omega
               |some y=>
                 obtain⟨b,sz',k⟩:=y
                 obtain⟨rfl,_⟩:=h2
                 obtain⟨q3,q4⟩:=q1 b k (by rw[hq];exact h1)
                 rw[Nat.zero_mul]at q3
                 exact⟨q3,q4,rfl⟩
              ·trivial
             ·exact .undef _
            ·rename_i e
             cases h with
             |asl _ _ _ _ _ _ b k hd hb hle hk=>exact .asl _ _ _ _ _ _ b k hd (by rw[hoth e];exact hb) hle hk
             |aslnil _ _ _ base hd hb=>exact .aslnil _ _ _ base hd (by rw[hoth e];exact hb)
             |aslold _ _ _ _ _ _ N blk base ln cp hd hb hn2=>exact .aslold _ _ _ _ _ _ N blk base ln cp hd (by rw[hoth e];exact hb) hn2
             |aslh _ _ _ _ _ _ lo N f hd hb hn2 hle hk=>exact .aslh _ _ _ _ _ _ lo N f hd (by rw[hoth e];exact hb) hn2 hle hk
             |aslho _ _ _ _ _ _ lo N sz' f base ln cp hd hb hn2=>exact .aslho _ _ _ _ _ _ lo N sz' f base ln cp hd (by rw[hoth e];exact hb) hn2
           e:=fun d' l' n i j u h=>by
            simp only[frzR]
            split
            ·exact .undef _
            ·rename_i e
             cases h with
             |eptr _ _ _ _ _ b sz k hd hb=>exact .eptr _ _ _ _ _ b sz k hd (by rw[hoth e];exact hb)
             |eptrold _ _ _ _ _ N blk p hd hb hn2=>exact .eptrold _ _ _ _ _ N blk p hd (by rw[hoth e];exact hb) hn2
             |eptrh _ _ _ _ _ sz lo N f hd hb hn2=>exact .eptrh _ _ _ _ _ sz lo N f hd (by rw[hoth e];exact hb) hn2
             |eptrho _ _ _ _ _ lo N sz' f p hd hb hn2=>exact .eptrho _ _ _ _ _ lo N sz' f p hd (by rw[hoth e];exact hb) hn2
           own:=own}
        refine⟨γ',ER.map ok hE,⟨fun d' l' x hx=> ?_,fun d' l' hx=> ?_,?_,fun l' g b h=>hS.frn l' g b (by rwa [hoth' (by rintro⟨e,_⟩;cases e)]at h)⟩,?_,rfl,own⟩
        ·simp only[sget]at hx
         split at hx
         ·rename_i hd
          subst hd
          by_cases e:l'=l
          ·subst e
           rw[lget_put_same]at hx
           cases hx
           refine⟨blk,hsame,fun b sz' k hb=> ?_⟩
           subst hb
           obtain⟨rfl,c,e,h3,h4,h5,h6,h7,_⟩:=h2
           exact⟨c,e,h3,h4,h5,h6,h7⟩
          ·rw[lget_put_other _ _ e,lget_ren]at hx
           obtain⟨y,hy,rfl⟩:=Option.map_eq_some_iff.1 hx
           have he:=hS.ent r.length l' y (by simp[sget,hy])
           exact EnR.map he ok (fun g h=>(hoth (by rintro⟨_,rfl⟩;exact e rfl)).trans h)
         ·rename_i hd
          have he:=hS.ent d' l' x (by simp[sget,hd,hx])
          have hlt:=sget_lt hx
          exact he.restrict (fun d1 l1 g h' h=>(hoth (by omega)).trans h) own
        ·simp only[sget]at hx
         split at hx
         ·rename_i hd
          subst hd
          by_cases e:l'=l
          ·subst e;rw[lget_put_same]at hx;cases hx
          ·rw[lget_put_other _ _ e,lget_ren]at hx
           rw[hoth (by rintro⟨_,rfl⟩;exact e rfl)]
           exact hS.none _ l' (by simpa [sget]using hx)
         ·rename_i hd
          rw[hoth (by omega)]
          exact hS.none d' l' (by simp[sget,hd,hx])
        ·intro d1 l1 g1 d2 l2 g2 b k1 k2 b1 b2
         have pull: ∀ {d:Option Nat} {l' g},γ' d l'=some g→g.blk=some b→ ∃g',γ d l'=some g'∧g'.blk=some b:=by
          intro d l' g k kb
          by_cases e:d=some r.length∧l'=l
          ·obtain⟨rfl,rfl⟩:=e
           rw[hsame]at k;cases k
           refine⟨_,h1,?_⟩
           cases blk with
           |none=>exact kb
           |some y=>exact kb
          ·rw[hoth' e]at k;exact⟨g,k,kb⟩
         obtain⟨g1',k1',b1'⟩:=pull k1 b1
         obtain⟨g2',k2',b2'⟩:=pull k2 b2
         exact hS.inj d1 l1 g1' d2 l2 g2' b k1' k2' b1' b2'
        ·have hne: ∀ {d' l':Nat},d'<dep (loc::r)→γ' d' l'=γ d' l':=fun h=>hoth (by simp[dep]at h;omega)
         exact⟨rfl,rfl,rfl,Nat.le_refl _,Nat.le_refl _,fun d' l b h hb=>by rw[hne h];exact hb,fun d' l b h hb=>by rw[hne h];exact hb,fun d' l n blk h hb=>⟨n,blk,by rw[hne h];exact hb, .inl ⟨rfl,rfl⟩⟩,fun d' l lo N _ f h hb=>⟨lo,N,f,by rw[hne h];exact hb,Nat.le_refl _,Nat.le_refl _,fun _ _ _=>rfl⟩,fun d' l n blk h hb=>⟨n,blk,by rw[hne h];exact hb, .inl ⟨rfl,rfl⟩⟩,fun _ _ _ h _=>h,fun b off _ hno ho=>hno (own b off ho),fun _ _ _=>rfl,fun _=>hoth' (by rintro⟨e,_⟩;cases e),fun _ _ _ _ _=>rfl⟩
       ·exact Ghost.refl hE hS
     |_=>exact Ghost.refl hE hS
theorem Ghost.trans {e1 e2:Env} {s1 s2:Stk}(h:Ghost K e s a w γ e1 s1)(k: ∀γ1,ER s1.length w γ1 e1 a→SR K s1 w γ1→Ghost K e1 s1 a w γ1 e2 s2):Ghost K e s a w γ e2 s2:=by
 obtain⟨γ1,h1,h2,h3,h4,h5⟩:=h
 obtain⟨γ2,k1,k2,k3,k4,k5⟩:=k γ1 h1 h2
 have hd:dep s1=dep s:=by simp[dep,h4]
 exact⟨γ2,k1,k2,h3.trans (by rw[←hd];exact k3),k4.trans h4,fun b off h=>h5 b off (k5 b off h)⟩
theorem frzAll_ok: ∀(ls:List Nat) {e:Env} {s:Stk} {γ:G},ER s.length w γ e a→SR K s w γ→Ghost K e s a w γ (frzAll ls e s).1 (frzAll ls e s).2
 |[],_,_,_,hE,hS=>Ghost.refl hE hS
 |l::r,e,s,γ,hE,hS=>by
   have h:=frz1_ok hE hS l
   simp only[frzAll]
   exact h.trans fun γ1 h1 h2=>frzAll_ok r h1 h2
theorem tok_new(hS:SR K s w γ)(hs:s≠[]) {l n:Nat}(hn:sget s (dep s) l=none):SR K (sput s (dep s) l (.tok n)) w (γ.set (dep s) l (.tok n none))∧Ext s.length w γ w (γ.set (dep s) l (.tok n none))∧ ∀b off,Own (γ.set (dep s) l (.tok n none)) b off→Own γ b off:=by
 have hd:=dep_succ hs
 have hx:Ext s.length w γ w (γ.set (dep s) l (.tok n none)):=Ext.name _ w γ (hS.none _ _ hn) (fun b off h=>h.elim)
 refine⟨hS.step (by omega) hx rfl ⟨none,G.set_same _ _ _ _,fun _ _ _ h=>by cases h⟩ (fun _ _ _ _ _ _ _=>rfl) (fun b hb=>by simp[GE.blk]at hb),hx,fun b off h=> ?_⟩
 rcases own_set h with h|h
 ·exact h.elim
 ·exact h
theorem own_full {D:Nat} {z sz l:Nat} {es:List (List V)} {u:Value}(h:VR D w γ (.sl .full z es) u)(hz:z=sz∨es=[]) {d:Nat}(hd:d<D)(hg:γ d l=some (.tok es.length none)):VR D w γ (.sl (.own d l) sz es) u:=by
 cases h with
 |slnil _ _ hc=>exact .slnil _ _ ⟨hd,0,none,hg,Nat.le_refl _,fun _=>rfl⟩
 |sl0 _ _ a cap hc=>exact .sl0 _ _ a cap ⟨hd,0,none,hg,Nat.le_refl _,fun _=>hc⟩
 |sl _ _ _ b off cap hsz hp hle hcap hc hno h=>
   have hcap':cap=es.length:=hcap
   have hcap2:capOk D γ (.own d l) sz (some ⟨b,off,none⟩) es.length cap:=⟨hd,es.length,none,hg,Nat.le_refl _,fun _=>hcap'⟩
   rcases hz with rfl|rfl
   ·exact .sl _ _ _ b off cap hsz hp hle hcap2 hc hno h
   ·exact .sl _ sz [] b off cap (by simp) (by simp) hle hcap2 (fun i cs j v hi=>by simp at hi) (fun i cs j v hi=>by simp at hi) (fun i cs j v u hi=>by simp at hi)
theorem arr_newG(hS:SR K s w γ)(hs:s≠[]) {l:Nat}(sz:Nat)(hn:sget s (dep s) l=none):SR K (sput s (dep s) l (.arr sz [])) w (γ.set (dep s) l (.arr 0 none))∧Ext s.length w γ w (γ.set (dep s) l (.arr 0 none))∧ ∀b off,Own (γ.set (dep s) l (.arr 0 none)) b off→Own γ b off:=by
 have hd:=dep_succ hs
 have hx:Ext s.length w γ w (γ.set (dep s) l (.arr 0 none)):=Ext.name _ w γ (hS.none _ _ hn) (fun b off h=>h.elim)
 refine⟨hS.step (by omega) hx rfl ⟨none,G.set_same _ _ _ _,by simp,rfl⟩ (fun _ _ _ _ _ _ _=>rfl) (fun b hb=>by simp[GE.blk]at hb),hx,fun b off h=> ?_⟩
 rcases own_set h with h|h
 ·exact h.elim
 ·exact h
theorem own_fullA {D:Nat} {z l:Nat} {u:Value}(h:VR D w γ (.sl .full z []) u)(sz:Nat) {d:Nat}(hd:d<D)(hg:γ d l=some (.arr 0 none)):VR D w γ (.asl d l sz 0 0 0) u:=by
 cases h with
 |slnil _ _ hc=>exact .aslnil _ _ _ none hd hg
 |sl0 _ _ a cap hc=>
   have:cap=0:=hc
   subst this
   exact .aslnil _ _ _ (some a) hd hg
 |sl _ _ _ b off cap hsz hp hle hcap hc hno h=>
   have:cap=0:=hcap
   subst this
   exact .aslnil _ _ _ _ hd hg
theorem thaw_ok(hE:ER s.length w γ e a)(hS:SR K s w γ) {t l sz:Nat} {ex:Ex} {e':Env} {s':Stk}(h:thaw t l sz e s=some (ex,e',s')):ex= .normal∧Ghost K e s a w γ e' s':=by
 unfold thaw at h
 split at h
 ·rename_i z es he
  split at h
  ·split at h
   ·rename_i hc
    obtain⟨rfl,hn,hs⟩:=hc
    cases h
    obtain⟨h1,h2,h3⟩:=arr_newG hS hs (l:=l) (sz-100) (by simpa using hn)
    have hd:=dep_succ hs
    refine⟨rfl,_,fun t'=> ?_,h1,h2.mono (by omega),by simp,h3⟩
    rw[sput_length]
    simp only[Env.get]
    split
    ·rename_i ht
     subst ht
     have hv:=hE t'
     rw[he]at hv
     exact own_fullA (hv.ext h2) _ (by omega) (G.set_same _ _ _ _)
    ·exact(hE t').ext h2
   ·cases h
  split at h
  ·rename_i hc
   obtain⟨hz,hn,hs⟩:=hc
   cases h
   obtain⟨h1,h2,h3⟩:=tok_new hS hs (l:=l) (n:=es.length) (by simpa using hn)
   have hd:=dep_succ hs
   refine⟨rfl,_,fun t'=> ?_,h1,h2.mono (by omega),by simp,h3⟩
   rw[sput_length]
   simp only[Env.get]
   split
   ·rename_i ht
    subst ht
    have hv:=hE t'
    rw[he]at hv
    exact own_full (hv.ext h2) hz (by omega) (G.set_same _ _ _ _)
   ·exact(hE t').ext h2
  ·cases h
 ·cases h;exact⟨rfl,Ghost.refl hE hS⟩
 ·cases h;exact⟨rfl,Ghost.refl hE hS⟩
 ·cases h
theorem thawc_ok(hE:ER s.length w γ e a)(hS:SR K s w γ) {t off l sz:Nat} {ex:Ex} {e':Env} {s':Stk}(h:thawc t off l sz e s=some (ex,e',s')):ex= .normal∧Ghost K e s a w γ e' s':=by
 unfold thawc at h
 split at h
 ·rename_i d k o he
  split at h
  ·rename_i cs hg
   split at h
   ·rename_i z es hcs
    split at h
    ·split at h
     ·rename_i hc
      obtain⟨rfl,hdd,hn,hs,hkl⟩:=hc
      cases h
      subst hdd
      have hd:=dep_succ hs
      obtain⟨b,c,el,g1,g2,g3⟩:=hS.cell hg
      obtain⟨γ',hγ⟩: ∃γ',γ'=γ.set (dep s) l (.arr 0 none):=⟨_,rfl⟩
      have hn':sget s (dep s) l=none:=by simpa using hn
      obtain⟨h1,h2,h3⟩:=arr_newG hS hs (l:=l) (sz-100) hn'
      rw[←hγ]at h1 h2 h3
      have gk:γ' (dep s) k=some (.cell b):=by rw[hγ,G.set_other γ _ (by rintro⟨_,rfl⟩;exact hkl rfl)];exact g1
      have gl:γ' (dep s) l=some (.arr 0 none):=by rw[hγ,G.set_same]
      have hlr:LR (dep s+1) w γ' (cs.set (o+off) (.asl (dep s) l (sz-100) 0 0 0)) c.toList:=by
       have hl0:=g3.ext (h2.mono (show dep s+1≤s.length by omega))
       refine⟨by simpa using hl0.1,fun i v u hv hu=> ?_⟩
       rw[List.getElem?_set]at hv
       split at hv
       ·rename_i hi
        split at hv
        ·cases hv
         subst hi
         exact own_fullA (hl0.2 _ _ u hcs hu) _ (by omega) gl
        ·cases hv
       ·exact hl0.2 i v u hv hu
      have h4:SR K (sput (sput s (dep s) l (.arr (sz-100) [])) (dep s) k (.cell (cs.set (o+off) (.asl (dep s) l (sz-100) 0 0 0)))) w γ':=by
       refine h1.step (g:= .cell b) (by rw[sput_length];omega) (Ext.refl _ _ _) (set_self gk).symm ⟨b,c,el,gk,g2,hlr⟩ (fun _ _ _ _ _ _ _=>rfl) ?_
       intro b1 hb1 d' l' g' hne hg' hb'
       simp[GE.blk]at hb1;subst hb1
       exact hne (h1.inj d' l' g' (dep s) k _ b hg' gk hb' rfl)
      have hcomm: ∀d' l',sget (sput (sput s (dep s) k (.cell (cs.set (o+off) (.asl (dep s) l (sz-100) 0 0 0)))) (dep s) l (.arr (sz-100) [])) d' l'=sget (sput (sput s (dep s) l (.arr (sz-100) [])) (dep s) k (.cell (cs.set (o+off) (.asl (dep s) l (sz-100) 0 0 0)))) d' l':=by
       intro d' l'
       have hlt:dep s<s.length:=by omega
       by_cases e1:d'=dep s∧l'=l
       ·obtain⟨rfl,rfl⟩:=e1
        rw[sget_put_same _ _ _ (by simpa using hlt),sget_put_other _ _ (by rintro⟨_,rfl⟩;exact hkl rfl),sget_put_same _ _ _ hlt]
       ·rw[sget_put_other _ _ e1]
        by_cases e2:d'=dep s∧l'=k
        ·obtain⟨rfl,rfl⟩:=e2
         rw[sget_put_same _ _ _ hlt,sget_put_same _ _ _ (by simpa using hlt)]
        ·rw[sget_put_other _ _ e2,sget_put_other _ _ e2,sget_put_other _ _ e1]
      refine⟨rfl,γ',?_,⟨fun d' l' x hx=>h4.ent d' l' x (by rw[←hcomm];exact hx),fun d' l' hx=>h4.none d' l' (by rw[←hcomm];exact hx),h4.inj,h4.frn⟩,h2.mono (by omega),by simp,h3⟩
      simp only[sput_length]
      exact hE.ext h2
     ·cases h
    split at h
    ·rename_i hc
     obtain⟨hz,hdd,hn,hs,hkl⟩:=hc
     cases h
     subst hdd
     have hd:=dep_succ hs
     obtain⟨b,c,el,g1,g2,g3⟩:=hS.cell hg
     obtain⟨γ',hγ⟩: ∃γ',γ'=γ.set (dep s) l (.tok es.length none):=⟨_,rfl⟩
     have hn':sget s (dep s) l=none:=by simpa using hn
     have hs1:sput s (dep s) l (.tok es.length)≠[]:=fun e0=>hs (List.eq_nil_of_length_eq_zero (by rw[←sput_length s (dep s) l (.tok es.length),e0];rfl))
     obtain⟨h1,h2,h3⟩:=tok_new hS hs (l:=l) (n:=es.length) hn'
     rw[←hγ]at h1 h2 h3
     have gk:γ' (dep s) k=some (.cell b):=by rw[hγ,G.set_other γ _ (by rintro⟨_,rfl⟩;exact hkl rfl)];exact g1
     have gl:γ' (dep s) l=some (.tok es.length none):=by rw[hγ,G.set_same]
     have hlr:LR (dep s+1) w γ' (cs.set (o+off) (.sl (.own (dep s) l) sz es)) c.toList:=by
      have hl0:=g3.ext (h2.mono (show dep s+1≤s.length by omega))
      refine⟨by simpa using hl0.1,fun i v u hv hu=> ?_⟩
      rw[List.getElem?_set]at hv
      split at hv
      ·rename_i hi
       split at hv
       ·cases hv
        subst hi
        exact own_full (hl0.2 _ _ u hcs hu) hz (by omega) gl
       ·cases hv
      ·exact hl0.2 i v u hv hu
     have h4:SR K (sput (sput s (dep s) l (.tok es.length)) (dep s) k (.cell (cs.set (o+off) (.sl (.own (dep s) l) sz es)))) w γ':=by
      refine h1.step (g:= .cell b) (by rw[sput_length];omega) (Ext.refl _ _ _) (set_self gk).symm ⟨b,c,el,gk,g2,hlr⟩ (fun _ _ _ _ _ _ _=>rfl) ?_
      intro b1 hb1 d' l' g' hne hg' hb'
      simp[GE.blk]at hb1;subst hb1
      exact hne (h1.inj d' l' g' (dep s) k _ b hg' gk hb' rfl)
     have hcomm: ∀d' l',sget (sput (sput s (dep s) k (.cell (cs.set (o+off) (.sl (.own (dep s) l) sz es)))) (dep s) l (.tok es.length)) d' l'=sget (sput (sput s (dep s) l (.tok es.length)) (dep s) k (.cell (cs.set (o+off) (.sl (.own (dep s) l) sz es)))) d' l':=by
      intro d' l'
      have hlt:dep s<s.length:=by omega
      by_cases e1:d'=dep s∧l'=l
      ·obtain⟨rfl,rfl⟩:=e1
       rw[sget_put_same _ _ _ (by simpa using hlt),sget_put_other _ _ (by rintro⟨_,rfl⟩;exact hkl rfl),sget_put_same _ _ _ hlt]
      ·rw[sget_put_other _ _ e1]
       by_cases e2:d'=dep s∧l'=k
       ·obtain⟨rfl,rfl⟩:=e2
        rw[sget_put_same _ _ _ hlt,sget_put_same _ _ _ (by simpa using hlt)]
       ·rw[sget_put_other _ _ e2,sget_put_other _ _ e2,sget_put_other _ _ e1]
     refine⟨rfl,γ',?_,⟨fun d' l' x hx=>h4.ent d' l' x (by rw[←hcomm];exact hx),fun d' l' hx=>h4.none d' l' (by rw[←hcomm];exact hx),h4.inj,h4.frn⟩,h2.mono (by omega),by simp,h3⟩
     simp only[sput_length]
     exact hE.ext h2
    ·cases h
   ·cases h;exact⟨rfl,Ghost.refl hE hS⟩
   ·cases h;exact⟨rfl,Ghost.refl hE hS⟩
   ·cases h
  ·cases h
 ·cases h
end
end Go.Ab

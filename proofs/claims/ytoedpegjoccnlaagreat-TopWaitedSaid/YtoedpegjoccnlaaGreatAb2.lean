/-
  Operations: what the evaluator says of one (but a call), the model does. Reading.
-/
import Derived.Test.YtoedpegjoccnlaaGreatAb1
import Derived.Laws.StructEq
set_option linter.unusedSimpArgs false
set_option linter.unusedVariables false
namespace Go.Ab
section
variable {D : Nat} {w : World} {γ : G}
theorem VR.int_inv {k n u}(h:VR D w γ (.int k n) u):u= .int k n:=by cases h;rfl
theorem VR.bool_inv {b u}(h:VR D w γ (.bool b) u):u= .bool b:=by cases h;rfl
theorem VR.agg_inv {cs u}(h:VR D w γ (.agg cs) u): ∃us:Array Value,u= .agg us∧LR D w γ cs us.toList:=by
 cases h with
 |agg _ us hl h=>exact⟨us,rfl,by simpa using hl,fun i v u hv hu=>h i v u hv (by simpa using hu)⟩
theorem VR.tup_inv {cs u}(h:VR D w γ (.tup cs) u): ∃us:Array Value,u= .tuple us∧LR D w γ cs us.toList:=by
 cases h with
 |tup _ us hl h=>exact⟨us,rfl,by simpa using hl,fun i v u hv hu=>h i v u hv (by simpa using hu)⟩
theorem VR.agg_mk {cs:List V} {us:List Value}(h:LR D w γ cs us):VR D w γ (.agg cs) (.agg us.toArray):=
 .agg cs us.toArray (by simpa using h.1) fun i v u hv hu=>h.2 i v u hv (by simpa using hu)
theorem VR.tup_mk {cs:List V} {us:List Value}(h:LR D w γ cs us):VR D w γ (.tup cs) (.tuple us.toArray):=
 .tup cs us.toArray (by simpa using h.1) fun i v u hv hu=>h.2 i v u hv (by simpa using hu)
theorem VR.fn_mk {f:FuncId} {as bs:List V} {us ws:List Value}(h:LR D w γ as us)(h':LR D w γ bs ws):VR D w γ (.fn f as bs) (.func (.func f) us.toArray ws.toArray):=
 .fn f as bs us.toArray ws.toArray (by simpa using h.1) (by simpa using h'.1) (fun i v u hv hu=>h.2 i v u hv (by simpa using hu)) (fun i v u hv hu=>h'.2 i v u hv (by simpa using hu))
theorem VR.cells {v:V} {u:Value}(h:VR D w γ v u)(hd:v.isDef=true):LR D w γ v.cells u.cells.toList:=by
 have one: ∀ {v:V} {u:Value},VR D w γ v u→LR D w γ [v] [u]:=fun h=>LR.cons h LR.nil
 cases h with
 |undef u=>simp[V.isDef]at hd
 |skip=>simp[V.isDef]at hd
 |agg cs us hl h=>exact⟨by simpa [V.cells,Value.cells]using hl,fun i v u hv hu=>h i v u hv (by simpa [Value.cells]using hu)⟩
 |int k n=>exact one (.int k n)
 |bool b=>exact one (.bool b)
 |anyb b=>exact one (.anyb b)
 |csl p n cap a hle h=>exact one (.csl p n cap a hle h)
 |mp p q h=>exact one (.mp p q h)
 |tup cs us hl h=>exact one (.tup cs us hl h)
 |nilp=>exact one .nilp
 |ptr d l off b hd' hb=>exact one (.ptr d l off b hd' hb)
 |ep cs b off hp hc hno h=>exact one (.ep cs b off hp hc hno h)
 |slnil c sz hcap=>exact one (.slnil c sz hcap)
 |sl0 c sz a cap hcap=>exact one (.sl0 c sz a cap hcap)
 |sl c sz es b off cap hsz hp hle hcap hc hno h=>exact one (.sl c sz es b off cap hsz hp hle hcap hc hno h)
 |fn f first cap us ws h1 h2 k1 k2=>exact one (.fn f first cap us ws h1 h2 k1 k2)
 |nilf=>exact one .nilf
 |yld d l b hd' hb=>exact one (.yld d l b hd' hb)
 |asl d l sz n off len b k hd' hb hle hk=>exact one (.asl d l sz n off len b k hd' hb hle hk)
 |aslnil d l sz base hd' hb=>exact one (.aslnil d l sz base hd' hb)
 |aslold d l sz n off len N blk base ln cp hd' hb hn=>exact one (.aslold d l sz n off len N blk base ln cp hd' hb hn)
 |eptr d l n i j b sz k hd' hb=>exact one (.eptr d l n i j b sz k hd' hb)
 |eptrold d l n i j N blk p hd' hb hn=>exact one (.eptrold d l n i j N blk p hd' hb hn)
 |aslh d l sz n off len lo N f hd' hb hn hle hk=>exact one (.aslh d l sz n off len lo N f hd' hb hn hle hk)
 |eptrh d l n i j sz lo N f hd' hb hn=>exact one (.eptrh d l n i j sz lo N f hd' hb hn)
 |aslho d l sz n off len lo N sz' f base ln cp hd' hb hn=>exact one (.aslho d l sz n off len lo N sz' f base ln cp hd' hb hn)
 |eptrho d l n i j lo N sz' f p hd' hb hn=>exact one (.eptrho d l n i j lo N sz' f p hd' hb hn)
theorem VR.one {v:V} {u:Value}(h:VR D w γ v u)(ho:v.one=true):u.oneCell'=true:=by
 cases h<;>first|rfl|simp[V.one]at ho
theorem oneAll_mem {vs:List V}(h:V.oneAll vs=true): ∀v∈vs,v.one=true:=by
 induction vs with
 |nil=>simp
 |cons x r ih=>simp[V.oneAll]at h;intro v hv;cases hv with
   |head=>exact h.1
   |tail _ hv=>exact ih h.2 v hv
theorem elemAll_mem {vs:List V}(h:V.elemAll vs=true): ∀v∈vs,v.pure=true∧v.one=true:=by
 induction vs with
 |nil=>simp
 |cons x r ih=>simp[V.elemAll]at h;intro v hv;cases hv with
   |head=>exact h.1
   |tail _ hv=>exact ih h.2 v hv
theorem LR.one {vs:List V} {us:List Value}(h:LR D w γ vs us)(ho: ∀v∈vs,v.one=true): ∀u∈us,u.oneCell'=true:=by
 intro u hu
 obtain⟨i,hi,rfl⟩:=List.getElem_of_mem hu
 have hi':i<vs.length:=by rw[h.1];exact hi
 exact(h.2 i vs[i] us[i] (by simp) (by simp)).one (ho _ (List.getElem_mem hi'))
def RD(w:World)(b off:Nat)(us:List Value):Prop:= ∀j u,us[j]? =some u→w.cell? ⟨b,off+j,none⟩=some u
theorem RD.drop {w b off us}(h:RD w b off us)(n:Nat):RD w b (off+n) (us.drop n):=by
 intro j u hu
 rw[List.getElem?_drop]at hu
 have:=h (n+j) u hu
 rwa [←Nat.add_assoc]at this
theorem RD.row {w b c e fr}(h:w.heap[b]? =some (.cells c e fr))(off:Nat):RD w b off (c.toList.drop off):=by
 intro j u hu
 rw[cell_of_row w b (off+j) c e fr h]
 rw[List.getElem?_drop]at hu
 simpa using hu
theorem VR.ep_inv {cs u}(h:VR D w γ (.ep cs) u): ∃b off us,u= .pointer (some ⟨b,off,none⟩)∧LR D w γ cs us∧RD w b off us∧ ∀i,i<cs.length→ ¬Own γ b (off+i):=by
 cases h with
 |ep _ b off hp hc hno h=>
   refine⟨b,off,(List.range cs.length).map fun i=>(w.cell? ⟨b,off+i,none⟩).getD Go.undef,rfl,⟨by simp,fun i v u hv hu=> ?_⟩,fun j u hu=> ?_,fun i hi=> ?_⟩
   ·have hi:i<cs.length:=(List.getElem?_eq_some_iff.1 hv).1
    simp[hi]at hu
    obtain⟨u',hu'⟩:=hc i v hv
    rw[hu']at hu;simp at hu;subst hu
    exact h i v _ hv hu'
   ·have hj:j<cs.length:=by have:=(List.getElem?_eq_some_iff.1 hu).1;simpa using this
    simp[hj]at hu
    obtain⟨u',hu'⟩:=hc j cs[j] (by simp)
    rw[hu']at hu⊢;simpa using hu
   ·exact hno i cs[i] (by simp)
theorem VR.ep_pure {cs u}(h:VR D w γ (.ep cs) u):V.pureAll cs=true:=by
 cases h with
 |ep _ b off hp _ _ _=>exact hp
theorem VR.ep_mk {cs:List V} {us:List Value} {b off:Nat}(hp:V.pureAll cs=true)(h:LR D w γ cs us)(hr:RD w b off us)(hno: ∀i,i<cs.length→ ¬Own γ b (off+i)):VR D w γ (.ep cs) (.pointer (some ⟨b,off,none⟩)):=by
 refine .ep cs b off hp (fun i v hv=> ?_) (fun i v hv=>hno i (List.getElem?_eq_some_iff.1 hv).1) (fun i v u hv hu=> ?_)
 ·have hi:i<us.length:=by rw[←h.1];exact(List.getElem?_eq_some_iff.1 hv).1
  exact⟨us[i],hr i us[i] (by simp)⟩
 ·have hi:i<us.length:=by rw[←h.1];exact(List.getElem?_eq_some_iff.1 hv).1
  have:=hr i us[i] (by simp)
  rw[this]at hu;cases hu
  exact h.2 i v us[i] hv (by simp)
end
theorem VR.cvs {D w γ} {v:Value} {c:V}(h:cvs v=some c):VR D w γ c v:=by
 unfold Ab.cvs at h
 split at h
 ·cases h;exact .int _ _
 ·cases h;exact .bool _
 ·cases h;exact .slnil _ _ rfl
 ·cases h;exact .nilp
 ·cases h;exact .nilf
 ·cases h;exact .mp .nilp none .nilp
 ·cases h
theorem LR.cvL {D w γ}: ∀ {us:List Value} {cs:List V},cvL us=some cs→LR D w γ cs us
 |[],cs,h=>by simp[Ab.cvL]at h;subst h;exact LR.nil
 |v::r,cs,h=>by
   unfold Ab.cvL at h
   split at h
   ·rename_i a b h1 h2
    cases h
    exact LR.cons (VR.cvs h1) (LR.cvL h2)
   ·cases h
theorem VR.cv {D w γ} {v:Value} {c:V}(h:cv v=some c):VR D w γ c v:=by
 unfold Ab.cv at h
 split at h
 ·rename_i cs
  cases h1:Ab.cvL cs.toList with
  |none=>rw[h1]at h;cases h
  |some l=>
    rw[h1]at h;cases h
    have:=VR.agg_mk (LR.cvL (D:=D) (w:=w) (γ:=γ) h1)
    simpa using this
 ·exact VR.cvs h
theorem VR.nilAs {D w γ} {v:V} {u:Value}(h:VR D w γ v u)(z:Nat):VR D w γ (nilAs z v) u:=by
 unfold Ab.nilAs
 split
 ·cases h with
  |slnil _ _ hc=>exact .slnil _ _ hc
  |sl0 _ _ a cap hc=>exact .sl0 _ _ a cap hc
  |sl c sz es b off cap hsz hp hle hcap hc hno h=>
    exact .sl _ z [] b off cap (by simp) (by simp) hle hcap (fun i cs j v hi=>by simp at hi) (fun i cs j v hi=>by simp at hi) (fun i cs j v u hi=>by simp at hi)
 ·exact h
theorem LR.nilsAs {D w γ}: ∀ {zs:List Nat} {vs:List V} {us:List Value},LR D w γ vs us→LR D w γ (nilsAs zs vs) us
 |[],vs,us,h=>by simpa [Ab.nilsAs]using h
 |z::zs,[],us,h=>by simpa [Ab.nilsAs]using h
 |z::zs,v::vs,us,h=>by
   obtain⟨u,us',rfl,h1,h2⟩:=h.inv
   exact LR.cons (h1.nilAs z) (LR.nilsAs h2)
section
variable {P : Program} {D : Nat} {w : World} {γ : G} {e : Env} {a : Act}
theorem ER.opd(hE:ER D w γ e a) {x:Operand} {y:Opd}(h:copd x=some y):VR D w γ (y.ev e) (a.eval x):=by
 cases x with
 |tmp t=>simp[copd]at h;subst h;exact hE t
 |const v=>
   simp only[copd]at h
   cases h1:cv v with
   |none=>rw[h1]at h;cases h
   |some c=>rw[h1]at h;cases h;exact VR.cv h1
 |global g=>cases h
 |func f=>simp[copd]at h;subst h;exact VR.fn_mk LR.nil LR.nil
theorem ER.opdT(hE:ER D w γ e a) {t:TypeId} {x:Operand} {y:Opd}(h:copdT P t x=some y):VR D w γ (y.ev e) (a.eval x):=by
 unfold copdT at h
 split at h
 ·rename_i cs h1
  cases h
  obtain⟨us,hu,hl⟩:=(hE.opd h1).agg_inv
  rw[hu]
  have:=VR.agg_mk (LR.nilsAs (zs:=cellSz P 12 t) hl)
  simpa [Opd.ev]using this
 ·rename_i v _ h1
  cases h
  exact(hE.opd h1).nilAs _
 ·exact hE.opd h
theorem ER.opds(hE:ER D w γ e a): ∀ {xs:List Operand} {ys:List Opd},copds xs=some ys→LR D w γ (opdAll e ys) (xs.map a.eval)
 |[],ys,h=>by simp[copds]at h;subst h;exact LR.nil
 |x::r,ys,h=>by
   unfold copds at h
   split at h
   ·rename_i p q h1 h2
    cases h
    exact LR.cons (hE.opd h1) (hE.opds h2)
   ·cases h
theorem ER.opdsT(hE:ER D w γ e a): ∀ {ts:List TypeId} {xs:List Operand} {ys:List Opd},copdsT P ts xs=some ys→LR D w γ (opdAll e ys) (xs.map a.eval)
 |ts,[],ys,h=>by cases ts<;>(simp[copdsT]at h;subst h;exact LR.nil)
 |t::ts,x::r,ys,h=>by
   unfold copdsT at h
   split at h
   ·rename_i p q h1 h2
    cases h
    exact LR.cons (hE.opdT h1) (hE.opdsT h2)
   ·cases h
 |[],x::r,ys,h=>by
   unfold copdsT at h
   split at h
   ·rename_i p q h1 h2
    cases h
    exact LR.cons (hE.opd h1) (hE.opdsT h2)
   ·cases h
theorem run_isAgg {t:TypeId} {b:Bool}(h:isAggT P t=some b)(w:World):(isAgg t).run P w= .ok b w:=by
 unfold isAggT at h
 cases hu:P.underlying t with
 |none=>rw[hu]at h;cases h
 |some d=>
   rw[hu]at h
   unfold isAgg
   simp only[Sem.run_bind,run_underlying hu,Result.andThen_ok]
   cases d<;>simp at h<;>subst h<;>rfl
theorem run_sizeOf' {t:TypeId} {n:Nat}(h:sizeT P t=some n)(w:World):(sizeOf t).run P w= .ok n w:=by
 unfold sizeT at h
 cases hi:P.info? t with
 |none=>rw[hi]at h;cases h
 |some i=>rw[hi]at h;cases h;simp[sizeOf,typeInfo,hi]
theorem part_drop {n:Option Nat} {cs:List V} {off:Nat} {v:V}(h:part n cs off=some v):part n (cs.drop off) 0=some v:=by
 cases n with
 |none=>simpa [part]using h
 |some n=>
   simp only[part]at h⊢
   split at h
   ·rename_i hle
    rw[if_pos (by simp;omega)]
    simpa using h
   ·cases h
theorem load_ok {t:TypeId} {n:Option Nat}(hn:nT P t=some n) {cs:List V} {us:List Value}(hl:LR D w γ cs us) {b off:Nat}(hr:RD w b off us) {v:V}(hp:part n cs 0=some v):
 ∃u,(loadVar t ⟨b,off,none⟩).run P w= .ok u w∧VR D w γ v u:=by
 unfold nT at hn
 split at hn
 ·rename_i m h1 h2
  cases hn
  simp only[part]at hp
  split at hp
  ·rename_i hle
   cases hp
   have hle':m≤us.length:=by rw[←hl.1];omega
   refine⟨.agg (us.take m).toArray,?_,?_⟩
   ·unfold loadVar
    simp only[Sem.run_bind,run_isAgg h1,Result.andThen_ok,if_true,run_sizeOf' h2]
    have:=run_loadCells_list (P:=P) w ⟨b,off,none⟩ (us.take m) (fun j v hj=>by
     rw[List.getElem?_take]at hj
     split at hj
     ·have:=hr j v hj;rwa [Addr.add_lit]
     ·cases hj)
    rw[show(us.take m).length=m by simp[hle']]at this
    simp[this]
   ·simpa using VR.agg_mk (hl.take m)
  ·cases hp
 ·rename_i h1 h2
  cases hn
  simp only[part]at hp
  have h0:0<us.length:=by rw[←hl.1];exact(List.getElem?_eq_some_iff.1 hp).1
  have hu:us[0]? =some us[0]:=by simp
  refine⟨us[0],?_,hl.2 0 v us[0] hp hu⟩
  unfold loadVar
  have hc:=hr 0 us[0] hu
  simp only[Nat.add_zero]at hc
  simp[run_isAgg h1,hc]
 ·cases hn
theorem part_ok {t:TypeId} {n:Option Nat}(hn:nT P t=some n) {cs:List V} {us:List Value}(hl:LR D w γ cs us) {off:Nat} {v:V}(hp:part n cs off=some v):
 ∃u,(Go.part t us.toArray off).run P w= .ok u w∧VR D w γ v u:=by
 unfold nT at hn
 split at hn
 ·rename_i m h1 h2
  cases hn
  simp only[part]at hp
  split at hp
  ·rename_i hle
   cases hp
   refine⟨.agg ((us.drop off).take m).toArray,?_,?_⟩
   ·unfold Go.part
    simp[run_isAgg h1,run_sizeOf' h2,List.take_drop]
   ·simpa using VR.agg_mk ((hl.drop off).take m)
  ·cases hp
 ·rename_i h1 h2
  cases hn
  simp only[part]at hp
  have h0:off<us.length:=by rw[←hl.1];exact(List.getElem?_eq_some_iff.1 hp).1
  refine⟨us[off],?_,hl.2 off v us[off] hp (by simp)⟩
  unfold Go.part
  simp[run_isAgg h1,h0]
 ·cases hn
end
end Go.Ab

/-
  Operations: memory that is laid, written, appended to.
-/
namespace Go.Ab
def OpOk(K:KK)(s:Stk)(w:World)(γ:G)(r:Result Next)(v:V)(f:Eff):Prop:=
 ∃u w' γ',(r= .ok (.value u) w'∨(r= .ok .skip w'∧u=undef))∧VR s.length w' γ' v u∧SR K (seff s f) w' γ'∧Ext s.length w γ w' γ'
section
variable {K : KK} {s : Stk} {w : World} {γ : G}
theorem OpOk.val(hS:SR K s w γ) {v:V} {u:Value}(h:VR s.length w γ v u):OpOk K s w γ (.ok (.value u) w) v none:=
 ⟨u,w,γ, .inl rfl,h,hS,Ext.refl _ _ _⟩
theorem dep_succ(h:s≠[]):dep s+1=s.length:=by
 cases s with
 |nil=>exact absurd rfl h
 |cons x r=>simp[dep]
theorem set_self {γ:G} {d l:Nat} {g:GE}(h:γ d l=some g):γ.set d l g=γ:=by
 funext d' l'
 by_cases e:d'=some d∧l'=l
 ·obtain⟨rfl,rfl⟩:=e;rw[G.set_same,h]
 ·rw[G.set_other' γ g e]
theorem cell_new(hS:SR K s w γ)(hs:s≠[]) {lab:Nat}(hn:sget s (dep s) lab=none) {cs:List V} {us:List Value}(hl:LR s.length w γ cs us)(el:TypeId):
 ∃γ',VR s.length (w.alloc (.cells us.toArray el)) γ' (.ptr (dep s) lab 0) (.pointer (some ⟨w.heap.size,0,none⟩))∧
  SR K (sput s (dep s) lab (.cell cs)) (w.alloc (.cells us.toArray el)) γ'∧Ext s.length w γ (w.alloc (.cells us.toArray el)) γ':=by
 have hd:=dep_succ hs
 have hx1:Ext s.length w γ w (γ.set (dep s) lab (.cell w.heap.size)):=Ext.name _ w γ (hS.none _ _ hn) (fun b off h=>by simp[GE.owns]at h;omega)
 have hx:=hx1.trans (Ext.alloc s.length w (γ.set (dep s) lab (.cell w.heap.size)) (.cells us.toArray el) (hS.frn_set _ _ _))
 refine⟨γ.set (dep s) lab (.cell w.heap.size), .ptr _ _ 0 _ (by omega) (G.set_same _ _ _ _),hS.step (by omega) hx rfl ⟨w.heap.size,us.toArray,el,G.set_same _ _ _ _,heap_alloc_new w _,?_⟩ ?_ ?_,hx⟩
 ·rw[hd];simpa using hl.ext hx
 ·intro d' l' g' b _ hg hb
  exact heap_alloc_old w _ b (hS.blk_lt hg hb)
 ·intro b hb d' l' g' _ hg hb'
  simp[GE.blk]at hb
  have:=hS.blk_lt hg hb'
  omega
theorem alloc_ok(hS:SR K s w γ)(hs:s≠[]) {lab:Nat}(hn:sget s (dep s) lab=none) {cs:List V} {us:List Value}(hl:LR s.length w γ cs us)(el:TypeId):
 OpOk K s w γ (.ok (.value (.pointer (some ⟨w.heap.size,0,none⟩))) (w.alloc (.cells us.toArray el))) (.ptr (dep s) lab 0) (some (dep s,lab, .cell cs)):=by
 obtain⟨γ',h1,h2,h3⟩:=cell_new hS hs hn hl el
 exact⟨_,_,γ', .inl rfl,h1,h2,h3⟩
theorem setAll_eq: ∀(vs cs:List V) (off:Nat),off+vs.length≤cs.length→setAll cs off vs=cs.take off ++vs ++cs.drop (off+vs.length)
 |[],cs,off,_=>by simp[setAll]
 |v::r,cs,off,h=>by
   simp only[List.length_cons]at h
   rw[setAll,setAll_eq r _ _ (by simp;omega)]
   have e1:(cs.set off v).take (off+1)=cs.take off ++[v]:=by
    rw[List.take_add_one,List.take_set_of_le (Nat.le_refl off)]
    simp[show off<cs.length by omega]
   rw[e1,List.drop_set_of_lt (by omega)]
   simp[Nat.add_comm r.length 1,Nat.add_assoc]
theorem store_ok(hS:SR K s w γ) {d l:Nat} {cs:List V}(hg:sget s d l=some (.cell cs)) {off b:Nat}(hb:γ d l=some (.cell b)) {vs:List V} {us:List Value}(hl:LR (d+1) w γ vs us)(ho:V.oneAll vs=true)
 (hle:off+vs.length≤cs.length) {P:Program}:
 ∃w',(storeCells ⟨b,off,none⟩ us).run P w= .ok () w'∧SR K (sput s d l (.cell (setAll cs off vs))) w' γ∧Ext s.length w γ w' γ:=by
 obtain⟨b',c,e,h1,h2,h3⟩:=hS.cell hg
 rw[hb]at h1;cases h1
 have hlen:us.length=vs.length:=hl.1.symm
 have hcs:cs.length=c.size:=by simpa using h3.1
 have hrun:=run_storeCells_at P b off e us 0 c w h2 (by omega) (hl.one (oneAll_mem ho))
 simp only[Nat.add_zero]at hrun
 have hown: ∀o,Own γ b o:=fun o=>⟨d,l,_,hb,rfl⟩
 have hx:Ext s.length w γ (w.setRow b (c.toList.take off ++us ++c.toList.drop (off+us.length)).toArray) γ:=by
  have:=Ext.setRow s.length (c':=(c.toList.take off ++us ++c.toList.drop (off+us.length)).toArray) hb rfl (g':= .cell b) (fun _ _ h=>h) h2 (fun o u hno _=>absurd (hown o) hno) ⟨0,rfl⟩ (hS.notfrn hb rfl) (fun _ h=>h) (fun _ h=>h) (fun _ _ h=>by cases h)
  rwa [set_self hb]at this
 refine⟨_,hrun,hS.step (g:= .cell b) (hS.lt hb) hx (set_self hb).symm ⟨b,_,e,hb,setRow_heap w b c _ e _ h2,?_⟩ ?_ ?_,hx⟩
 ·rw[setAll_eq vs cs off hle]
  have:=((h3.take off).append hl).append (h3.drop (off+vs.length))
  rw[←hlen]at this
  simpa [hlen]using this.ext (hx.mono (hS.lt hb))
 ·intro d' l' g' b1 hne hg' hb1
  refine setRow_other w b b1 _ ?_
  rintro rfl
  exact hne (hS.inj d' l' g' d l _ b1 hg' hb hb1 rfl)
 ·intro b1 hb1 d' l' g' hne hg' hb'
  simp[GE.blk]at hb1;subst hb1
  exact hne (hS.inj d' l' g' d l _ b hg' hb hb' rfl)
theorem flatten_get {sz:Nat}: ∀(es:List (List V)),(∀cs∈es,cs.length=sz)→ ∀i j,j<sz→es.flatten[i*sz+j]? =(es[i]?).bind fun cs=>cs[j]?
 |[],_,i,j,_=>by simp
 |cs::r,h,i,j,hj=>by
   have hc:cs.length=sz:=h cs (by simp)
   cases i with
   |zero=>simp[List.getElem?_append,hc,hj]
   |succ i=>
     have:=flatten_get r (fun x hx=>h x (by simp[hx])) i j hj
     simp only[List.flatten_cons,List.getElem?_cons_succ]
     rw[List.getElem?_append_right (by rw[hc,Nat.add_mul];omega),hc,show(i+1)*sz+j-sz=i*sz+j by rw[Nat.add_mul];omega]
     exact this
theorem flatten_len {sz:Nat}: ∀(es:List (List V)),(∀cs∈es,cs.length=sz)→es.flatten.length=es.length*sz
 |[],_=>by simp
 |cs::r,h=>by
   simp only[List.flatten_cons,List.length_append,List.length_cons]
   rw[h cs (by simp),flatten_len r (fun x hx=>h x (by simp[hx])),Nat.add_mul];omega
theorem VR.sl_inv {D:Nat} {c:Cap} {sz:Nat} {es:List (List V)} {u:Value}(h:VR D w γ (.sl c sz es) u):
 (∃base cap,u= .slice base 0 cap∧es=[]∧capOk D γ c sz base 0 cap∧(base=none→cap=0))∨
 ∃b off cap us,u= .slice (some ⟨b,off,none⟩) es.length cap∧(∀cs∈es,cs.length=sz)∧(∀cs∈es,V.elemAll cs=true)∧es.length≤cap∧capOk D γ c sz (some ⟨b,off,none⟩) es.length cap∧
  LR D w γ es.flatten us∧RD w b off us∧ ∀k,k<us.length→ ¬Own γ b (off+k):=by
 cases h with
 |slnil _ _ hc=>exact .inl ⟨none,0,rfl,rfl,hc,fun _=>rfl⟩
 |sl0 _ _ a cap hc=>exact .inl ⟨some a,cap,rfl,rfl,hc,fun h=>by cases h⟩
 |sl _ _ _ b off cap hsz hp hle hcap hc hno h=>
   refine .inr ⟨b,off,cap,(List.range es.flatten.length).map fun i=>(w.cell? ⟨b,off+i,none⟩).getD Go.undef,rfl,hsz,hp,hle,hcap,?_,?_,?_⟩
   all_goals
    have hfl:=flatten_len es hsz
    have split: ∀k,k<es.flatten.length→ ∃i j,k=i*sz+j∧j<sz:=fun k hk=>by
     rcases Nat.eq_zero_or_pos sz with h0|h0
     ·rw[hfl,h0]at hk;omega
     ·exact⟨k/sz,k%sz,by rw[Nat.mul_comm,Nat.div_add_mod],Nat.mod_lt _ h0⟩
   ·refine⟨by simp,fun k v u hv hu=> ?_⟩
    have hk:k<es.flatten.length:=(List.getElem?_eq_some_iff.1 hv).1
    obtain⟨i,j,rfl,hj⟩:=split k hk
    rw[flatten_get es hsz i j hj]at hv
    obtain⟨cs,h1,h2⟩:=Option.bind_eq_some_iff.1 hv
    obtain⟨u',hu'⟩:=hc i cs j v h1 h2
    rw[List.getElem?_map,List.getElem?_range hk]at hu
    simp only[Option.map_some,Option.some.injEq]at hu
    rw[hu']at hu;simp at hu;subst hu
    exact h i cs j v _ h1 h2 hu'
   ·intro k u hu
    have hk:k<es.flatten.length:=by have:=(List.getElem?_eq_some_iff.1 hu).1;simpa using this
    obtain⟨i,j,rfl,hj⟩:=split k hk
    have hv:es.flatten[i*sz+j]? =some es.flatten[i*sz+j]:=by simp
    rw[flatten_get es hsz i j hj]at hv
    obtain⟨cs,h1,h2⟩:=Option.bind_eq_some_iff.1 hv
    obtain⟨u',hu'⟩:=hc i cs j _ h1 h2
    rw[List.getElem?_map,List.getElem?_range hk]at hu
    simp only[Option.map_some,Option.some.injEq]at hu
    rw[hu']at hu⊢;simpa using hu
   ·intro k hk
    have hk:k<es.flatten.length:=by simpa using hk
    obtain⟨i,j,rfl,hj⟩:=split k hk
    have hv:es.flatten[i*sz+j]? =some es.flatten[i*sz+j]:=by simp
    rw[flatten_get es hsz i j hj]at hv
    obtain⟨cs,h1,h2⟩:=Option.bind_eq_some_iff.1 hv
    exact hno i cs j _ h1 h2
theorem VR.sl_mk {D:Nat} {c:Cap} {sz:Nat} {es:List (List V)} {b off cap:Nat} {us:List Value}(hsz: ∀cs∈es,cs.length=sz)(hp: ∀cs∈es,V.elemAll cs=true)(hle:es.length≤cap)
 (hcap:capOk D γ c sz (some ⟨b,off,none⟩) es.length cap) (hl:LR D w γ es.flatten us) (hr:RD w b off us) (hno: ∀k,k<us.length→ ¬Own γ b (off+k)):
 VR D w γ (.sl c sz es) (.slice (some ⟨b,off,none⟩) es.length cap):=by
 have at_: ∀(i:Nat) (cs:List V) (j:Nat) (v:V),es[i]? =some cs→cs[j]? =some v→es.flatten[i*sz+j]? =some v:=fun i cs j v h1 h2=>by
  have hm:cs∈es:=List.mem_of_getElem? h1
  have hj:j<sz:=by rw[←hsz cs hm];exact(List.getElem?_eq_some_iff.1 h2).1
  rw[flatten_get es hsz i j hj,h1];exact h2
 have lt_: ∀(k:Nat) (v:V),es.flatten[k]? =some v→k<us.length:=fun k v h=>by rw[←hl.1];exact(List.getElem?_eq_some_iff.1 h).1
 refine .sl c sz es b off cap hsz hp hle hcap (fun i cs j v h1 h2=> ?_) (fun i cs j v h1 h2=> ?_) (fun i cs j v u h1 h2 hu=> ?_)
 ·have hk:=lt_ _ _ (at_ i cs j v h1 h2)
  exact⟨us[i*sz+j],hr (i*sz+j) us[i*sz+j] (by simp)⟩
 ·exact hno _ (lt_ _ _ (at_ i cs j v h1 h2))
 ·have hk:=lt_ _ _ (at_ i cs j v h1 h2)
  have:=hr (i*sz+j) us[i*sz+j] (by simp)
  rw[this]at hu;cases hu
  exact hl.2 (i*sz+j) v us[i*sz+j] (at_ i cs j v h1 h2) (by simp)
theorem flatten_append'(es fs:List (List V)):(es ++fs).flatten=es.flatten ++fs.flatten:=by simp
theorem VR.sl_empty {D:Nat} {c:Cap} {sz:Nat} {base:Option Addr} {cap:Nat}(hcap:capOk D γ c sz base 0 cap)(hb:base=none→cap=0):VR D w γ (.sl c sz []) (.slice base 0 cap):=by
 cases base with
 |none=>have:=hb rfl;subst this;exact .slnil c sz hcap
 |some a=>exact .sl0 c sz a cap hcap
theorem VR.forget {D:Nat} {c:Cap} {sz:Nat} {es:List (List V)} {u:Value}(h:VR D w γ (.sl c sz es) u):VR D w γ (.sl .no sz es) u:=by
 cases h with
 |slnil _ _ _=>exact .slnil _ _ trivial
 |sl0 _ _ a cap _=>exact .sl0 _ _ a cap trivial
 |sl _ _ _ b off cap hsz hp hle hcap hc hno h=>exact .sl _ _ _ b off cap hsz hp hle trivial hc hno h
end
end Go.Ab

/-
  Operations: append.
-/
namespace Go.Ab
section
variable {K : KK} {s : Stk} {w : World} {γ : G} {P : Program}
theorem RD.add {b off:Nat} {us:List Value}(h:RD w b off us): ∀j u,us[j]? =some u→w.cell? ((⟨b,off,none⟩:Addr).add j)=some u:=by
 intro j u hu;rw[Addr.add_lit];exact h j u hu
theorem run_append_empty {t e:TypeId} {i:TypeInfo}(ty:TypeId)(ht:P.underlying t=some (.slice e))(hi:P.info? e=some i)(base:Option Addr)(len cap:Nat)(hle:len≤cap)(hn:base=none→len=0)(uy:Value)
 (hy:uy= .slice none 0 0∨ ∃a c,uy= .slice (some a) 0 c):
 (Builtin.append_ #[t,t] ty #[.slice base len cap,uy]).run P w= .ok (.slice base len cap) w:=by
 rcases hy with rfl|⟨a,c,rfl⟩
 ·cases base with
  |none=>simp[Builtin.append_,run_underlying ht,sizeOf,typeInfo,hi,Builtin.lenOf,hle,Builtin.firstCells]
  |some b=>simp[Builtin.append_,run_underlying ht,sizeOf,typeInfo,hi,Builtin.lenOf,hle,Builtin.firstCells,storeCells]
 ·cases base with
  |none=>simp[Builtin.append_,run_underlying ht,sizeOf,typeInfo,hi,Builtin.lenOf,hle,Builtin.firstCells,loadCells,loadCellsFrom]
  |some b=>simp[Builtin.append_,run_underlying ht,sizeOf,typeInfo,hi,Builtin.lenOf,hle,Builtin.firstCells,storeCells,loadCells,loadCellsFrom]
theorem zeroCells_size(z:Array Value)(n:Nat):(Builtin.zeroCells z n).size=n*z.size:=by simp[Builtin.zeroCells]
theorem RD.alloc {b off:Nat} {us:List Value}(h:RD w b off us)(o:Obj):RD (w.drew.alloc o) b off us:=by
 intro j u hu
 have:=h j u hu
 rw[World.cell?_alloc_lt w.drew o _ (by simpa using World.block_lt_of_cell? w _ this)]
 simpa using this
theorem grow_ok(hS:SR K s w γ) {d l:Nat}(hd:d<s.length) {g0:Option GE}(hg0:γ d l=g0)(hg:g0=none∨ ∃n blk,g0=some (.tok n blk)) {es fs:List (List V)} {esz n m cap:Nat} {olds news:List Value} {el:TypeId} {z:Array Value}
 (hn:es.length=n) (hm:fs.length=m) (hz:z.size=esz) (h0:0<esz) (hcap:n+m≤cap) (hmax:cap≤maxLen) (hpos:0<m)
 (hes: ∀cs∈es,cs.length=esz) (hfs: ∀cs∈fs,cs.length=esz) (hpe: ∀cs∈es,V.elemAll cs=true) (hpf: ∀cs∈fs,V.elemAll cs=true)
 (hlo:LR s.length w γ es.flatten olds) (hln:LR s.length w γ fs.flatten news) (htok: ∀n' blk,g0=some (.tok n' blk)→n'=n):
 ∃γ',VR s.length (w.drew.alloc (.cells (olds.toArray ++news.toArray ++Builtin.zeroCells z (cap-(n+m))) el)) γ' (.sl (.own d l) esz (es ++fs)) (.slice (some ⟨w.heap.size,0,none⟩) (n+m) cap)∧
  SR K (sput s d l (.tok (n+m))) (w.drew.alloc (.cells (olds.toArray ++news.toArray ++Builtin.zeroCells z (cap-(n+m))) el)) γ'∧
  Ext s.length w γ (w.drew.alloc (.cells (olds.toArray ++news.toArray ++Builtin.zeroCells z (cap-(n+m))) el)) γ':=by
 obtain⟨row,hrow⟩: ∃row,row=olds.toArray ++news.toArray ++Builtin.zeroCells z (cap-(n+m)):=⟨_,rfl⟩
 rw[←hrow]
 have lo:olds.length=n*esz:=by rw[←hlo.1,flatten_len es hes,hn]
 have ln:news.length=m*esz:=by rw[←hln.1,flatten_len fs hfs,hm]
 have hsize:row.size=cap*esz:=by
  rw[hrow];simp only[Array.size_append,List.size_toArray,zeroCells_size,lo,ln,hz,←Nat.add_mul];congr 1;omega
 obtain⟨g,hgd⟩: ∃g:GE,g= .tok (n+m) (some (w.heap.size,esz,cap)):=⟨_,rfl⟩
 have hx1:Ext s.length w γ w (γ.set d l g):=by
  refine⟨rfl,rfl,rfl,Nat.le_refl _,Nat.le_refl _,?_,?_,?_,?_,?_,fun _ _ _ h _=>h,?_,fun _ _ _=>rfl,fun _=>G.set_none _ _ _ _ _,fun _ _ _ _ _=>rfl⟩
  ·intro d' l' b _ h
   rw[G.set_other γ g];exact h
   rintro⟨rfl,rfl⟩
   rw[hg0]at h
   rcases hg with hg|⟨_,_,hg⟩<;>rw[hg]at h<;>cases h
  ·intro d' l' b _ h
   rw[G.set_other γ g];exact h
   rintro⟨rfl,rfl⟩
   rw[hg0]at h
   rcases hg with hg|⟨_,_,hg⟩<;>rw[hg]at h<;>cases h
  ·intro d' l' n' blk _ h
   refine⟨n',blk,?_, .inl ⟨rfl,rfl⟩⟩
   rw[G.set_other γ g];exact h
   rintro⟨rfl,rfl⟩
   rw[hg0]at h
   rcases hg with hg|⟨_,_,hg⟩<;>rw[hg]at h<;>cases h
  ·intro d' l' lo N _ f _ h
   refine⟨lo,N,f,?_,Nat.le_refl _,Nat.le_refl _,fun _ _ _=>rfl⟩
   rw[G.set_other γ g];exact h
   rintro⟨rfl,rfl⟩
   rw[hg0]at h
   rcases hg with hg|⟨_,_,hg⟩<;>rw[hg]at h<;>cases h
  ·intro d' l' n' blk _ h
   by_cases e:d'=d∧l'=l
   ·obtain⟨rfl,rfl⟩:=e
    rw[hg0]at h
    have:=htok n' blk h
    exact⟨n+m,some (w.heap.size,esz,cap),by rw[G.set_same,hgd], .inr (by omega)⟩
   ·exact⟨n',blk,by rw[G.set_other γ g e];exact h, .inl ⟨rfl,rfl⟩⟩
  ·intro b off hlt hno ho
   rcases own_set ho with h|h
   ·rw[hgd]at h;simp[GE.owns]at h;omega
   ·exact hno h
 have hx:Ext s.length w γ (w.drew.alloc (.cells row el)) (γ.set d l g):=(hx1.trans (Ext.drew s.length w (γ.set d l g))).trans (Ext.alloc s.length w.drew (γ.set d l g) (.cells row el) (hS.frn_set _ _ _))
 have hblk:(w.drew.alloc (.cells row el)).heap[w.heap.size]? =some (.cells row el (0,0)):=heap_alloc_new w.drew _
 refine⟨γ.set d l g,?_,hS.step hd hx rfl ⟨some (w.heap.size,esz,cap),by rw[G.set_same,hgd],fun b sz k e=> ?_⟩ ?_ ?_,hx⟩
 ·have hlen:(es ++fs).length=n+m:=by simp[hn,hm]
  rw[←hlen]
  refine VR.sl_mk (us:=olds ++news) (fun cs h=> ?_) (fun cs h=> ?_) (by rw[hlen];exact hcap) ⟨hd,n+m,some (w.heap.size,esz,cap),by rw[G.set_same,hgd],by rw[hlen];exact Nat.le_refl _,fun _=>⟨rfl,rfl,rfl⟩⟩ ?_ ?_ ?_
  ·rcases List.mem_append.1 h with h|h
   ·exact hes cs h
   ·exact hfs cs h
  ·rcases List.mem_append.1 h with h|h
   ·exact hpe cs h
   ·exact hpf cs h
  ·rw[flatten_append']
   exact(hlo.ext hx).append (hln.ext hx)
  ·intro j u hu
   rw[cell_of_row _ w.heap.size (0+j) row el (0,0) hblk,hrow]
   have hj:=(List.getElem?_eq_some_iff.1 hu).1
   simp only[Nat.zero_add,←Array.getElem?_toList,Array.toList_append,List.append_assoc]
   rw[←List.append_assoc,List.getElem?_append_left hj]
   exact hu
  ·intro k hk ho
   simp only[List.length_append,lo,ln,←Nat.add_mul]at hk
   rcases own_set ho with h|⟨d',l',g',h1,h2⟩
   ·rw[hgd]at h;simp[GE.owns]at h;omega
   ·have:=hS.blk_lt h1 (GE.owns_blk h2);omega
 ·cases e
  exact⟨row,el,hblk,hcap,hsize,h0,hmax⟩
 ·intro d' l' g' b _ hg' hb
  exact heap_alloc_old w.drew _ b (by simpa using hS.blk_lt hg' hb)
 ·intro b hb d' l' g' _ hg' hb'
  rw[hgd]at hb;simp[GE.blk]at hb
  have:=hS.blk_lt hg' hb'
  omega
theorem room_ok(hS:SR K s w γ) {d l b:Nat} {es fs:List (List V)} {esz n m k:Nat} {olds news:List Value}(hg:γ d l=some (.tok n (some (b,esz,k))))
 (hn:es.length=n) (hm:fs.length=m) (hcap:n+m≤k) (hpos:0<m) (hmax:k≤maxLen) {c:Array Value} {el:TypeId} (hc:w.heap[b]? =some (.cells c el (0,0))) (hsize:c.size=k*esz) (h0:0<esz)
 (hes: ∀cs∈es,cs.length=esz) (hfs: ∀cs∈fs,cs.length=esz) (hpe: ∀cs∈es,V.elemAll cs=true) (hpf: ∀cs∈fs,V.elemAll cs=true)
 (hlo:LR s.length w γ es.flatten olds) (hro:RD w b 0 olds) (hln:LR s.length w γ fs.flatten news):
 ∃γ',VR s.length (w.setRow b (c.toList.take (n*esz) ++news ++c.toList.drop (n*esz+news.length)).toArray) γ' (.sl (.own d l) esz (es ++fs)) (.slice (some ⟨b,0,none⟩) (n+m) k)∧
  SR K (sput s d l (.tok (n+m))) (w.setRow b (c.toList.take (n*esz) ++news ++c.toList.drop (n*esz+news.length)).toArray) γ'∧
  Ext s.length w γ (w.setRow b (c.toList.take (n*esz) ++news ++c.toList.drop (n*esz+news.length)).toArray) γ':=by
 obtain⟨row,hrow⟩: ∃row,row=c.toList.take (n*esz) ++news ++c.toList.drop (n*esz+news.length):=⟨_,rfl⟩
 rw[←hrow]
 have lo:olds.length=n*esz:=by rw[←hlo.1,flatten_len es hes,hn]
 have ln:news.length=m*esz:=by rw[←hln.1,flatten_len fs hfs,hm]
 have hfit:n*esz+m*esz≤c.size:=by rw[hsize,←Nat.add_mul];exact Nat.mul_le_mul_right _ hcap
 have hcl:c.toList.length=c.size:=Array.length_toList
 have hrs:row.toArray.size=k*esz:=by
  rw[hrow];simp only[List.size_toArray,List.length_append,List.length_take,List.length_drop,hcl,ln];omega
 have hold:olds=c.toList.take (n*esz):=by
  apply List.ext_getElem?
  intro j
  by_cases hj:j<n*esz
  ·have h1:=hro j olds[j] (by simp)
   rw[Nat.zero_add,cell_of_row w b j c el (0,0) hc]at h1
   rw[List.getElem?_take,if_pos hj,List.getElem?_eq_getElem (by omega)]
   simpa using h1.symm
  ·rw[List.getElem?_eq_none (by omega),List.getElem?_eq_none (by simp;omega)]
 have hkeep: ∀off u,¬Own γ b off→c[off]? =some u→row.toArray[off]? =some u:=by
  intro off u hno hu
  have hlt:off<n*esz:=by
   apply Nat.lt_of_not_le
   intro hle
   exact hno ⟨d,l,_,hg,rfl,hle⟩
  have:(c.toList.take (n*esz))[off]? =some u:=by rw[List.getElem?_take,if_pos hlt];simpa using hu
  have hl:off<(c.toList.take (n*esz)).length:=(List.getElem?_eq_some_iff.1 this).1
  rw[hrow]
  simp only[List.getElem?_toArray,List.append_assoc]
  rw[List.getElem?_append_left hl]
  exact this
 obtain⟨g',hgd⟩: ∃g:GE,g= .tok (n+m) (some (b,esz,k)):=⟨_,rfl⟩
 have hmono:n*esz≤(n+m)*esz:=Nat.mul_le_mul_right _ (by omega)
 have hx:Ext s.length w γ (w.setRow b row.toArray) (γ.set d l g'):=
  Ext.setRow s.length hg rfl (fun b' off h=>by rw[hgd]at h;simp only[GE.owns]at h⊢;omega) hc hkeep ⟨n*esz,rfl,Nat.le_refl _⟩ (hS.notfrn hg rfl) (fun _ h=>by cases h) (fun _ h=>by cases h)
   (fun n' blk h=>by cases h;exact⟨n+m,some (b,esz,k),hgd, .inr (by omega)⟩)
 have hblk:(w.setRow b row.toArray).heap[b]? =some (.cells row.toArray el (0,0)):=setRow_heap w b c _ el _ hc
 refine⟨γ.set d l g',?_,hS.step (hS.lt hg) hx rfl ⟨some (b,esz,k),by rw[G.set_same,hgd],fun b1 sz1 k1 e=> ?_⟩ ?_ ?_,hx⟩
 ·have hlen:(es ++fs).length=n+m:=by simp[hn,hm]
  rw[←hlen]
  refine VR.sl_mk (us:=olds ++news) (fun cs h=> ?_) (fun cs h=> ?_) (by rw[hlen];exact hcap) ⟨hS.lt hg,n+m,some (b,esz,k),by rw[G.set_same,hgd],by rw[hlen];exact Nat.le_refl _,fun _=>⟨rfl,rfl,rfl⟩⟩ ?_ ?_ ?_
  ·rcases List.mem_append.1 h with h|h
   ·exact hes cs h
   ·exact hfs cs h
  ·rcases List.mem_append.1 h with h|h
   ·exact hpe cs h
   ·exact hpf cs h
  ·rw[flatten_append']
   exact(hlo.ext hx).append (hln.ext hx)
  ·intro j u hu
   rw[cell_of_row _ b (0+j) row.toArray el (0,0) hblk,hrow]
   have hj:=(List.getElem?_eq_some_iff.1 hu).1
   simp only[Nat.zero_add,List.getElem?_toArray]
   rw[←hold,List.getElem?_append_left hj]
   exact hu
  ·intro j hj ho
   simp only[List.length_append,lo,ln,←Nat.add_mul]at hj
   rcases own_set' ho with h|⟨d',l',g1,hne,h1,h2⟩
   ·rw[hgd]at h;simp[GE.owns]at h;omega
   ·exact hne (hS.inj d' l' g1 d l _ b h1 hg (GE.owns_blk h2) rfl)
 ·cases e
  exact⟨row.toArray,el,hblk,hcap,hrs,h0,hmax⟩
 ·intro d' l' g1 b1 hne hg1 hb1
  refine setRow_other w b b1 _ ?_
  rintro rfl
  exact hne (hS.inj d' l' g1 d l _ b1 hg1 hg hb1 rfl)
 ·intro b1 hb1 d' l' g1 hne hg1 hb1'
  rw[hgd]at hb1;simp[GE.blk]at hb1;subst hb1
  exact hne (hS.inj d' l' g1 d l _ b hg1 hg hb1' rfl)
theorem tok_same(hS:SR K s w γ) {d l n:Nat}(hs:sget s d l=some (.tok n)):SR K (sput s d l (.tok n)) w γ:=by
 obtain⟨blk,hg,h⟩:=hS.tok hs
 refine hS.step (hS.lt hg) (Ext.refl _ _ _) (set_self hg).symm ⟨blk,hg,h⟩ (fun _ _ _ _ _ _ _=>rfl) ?_
 intro b hb d' l' g' hne hg' hb'
 exact hne (hS.inj d' l' g' d l _ b hg' hg hb' hb)
theorem append_ok(hS:SR K s w γ) {t e:TypeId} {i:TypeInfo} {z:Value}(ty:TypeId)(ht:P.underlying t=some (.slice e))(hi:P.info? e=some i)(hz:i.zero=some z)(h0:0<i.size)(hzs:z.cells.size=i.size)
 {c c':Cap} {sz sz':Nat} {es fs:List (List V)} {ux uy:Value} (hs1:sz=i.size∨es=[]) (hs2:sz'=i.size∨fs=[])
 (hb:(es.length+fs.length)*i.bytes≤140737488355328) (hl:es.length+fs.length<140737488355328) {lab:Nat} {v:V} {f:Eff}
 (h:(match c with
   | .no=>if fs=[]then some (V.sl .no sz es,(none:Eff))else none
   | .full=>if fs=[]then some (.sl .full sz es,none)else
     if (sget s (dep s) lab).isNone∧s≠[]then some (.sl (.own (dep s) lab) i.size (es ++fs),some (dep s,lab, .tok (es.length+fs.length)))else none
   | .own d l=>match sget s d l with
     |some (.tok n)=>if n=es.length∧sz=i.size then some (.sl (.own d l) i.size (es ++fs),some (d,l, .tok (es.length+fs.length)))else none
     |_=>none)=some (v,f)) (hX:VR s.length w γ (.sl c sz es) ux) (hY:VR s.length w γ (.sl c' sz' fs) uy):
 ∃u w' γ',(Builtin.append_ #[t,t] ty #[ux,uy]).run P w= .ok u w'∧VR s.length w' γ' v u∧SR K (seff s f) w' γ'∧Ext s.length w γ w' γ':=by
 have hmax:es.length+fs.length≤maxLen:=by simp only[maxLen];omega
 have h63:((es.length+fs.length:Nat):Int)≤9223372036854775807:=by omega
 have shX: ∃base len cap,ux= .slice base len cap∧len=es.length∧len≤cap∧(base=none→len=0∧cap=0):=by
  rcases hX.sl_inv with ⟨base,cap,rfl,rfl,_,hb0⟩|⟨b,off,cap,us,rfl,_,_,hle,_⟩
  ·exact⟨_,_,_,rfl,rfl,Nat.zero_le _,fun h=>⟨rfl,hb0 h⟩⟩
  ·exact⟨_,_,_,rfl,rfl,hle,fun h=>by cases h⟩
 by_cases hfs:fs=[]
 · --nothing comes
  subst hfs
  have hy:uy= .slice none 0 0∨ ∃a c,uy= .slice (some a) 0 c:=by
   rcases hY.sl_inv with ⟨base,cap,rfl,_,_,hb0⟩|⟨b,off,cap,us,rfl,_⟩
   ·cases base with
    |none=>have:=hb0 rfl;subst this;exact .inl rfl
    |some a=>exact .inr ⟨_,_,rfl⟩
   ·exact .inr ⟨_,_,rfl⟩
  obtain⟨base,len,cap,rfl,hlen,hle,hnb⟩:=shX
  have hrun:=run_append_empty (w:=w) ty ht hi base len cap hle (fun h=>(hnb h).1) uy hy
  refine⟨_,w,γ,hrun,?_,?_,Ext.refl _ _ _⟩
  ·cases c with
   |no=>simp at h;obtain⟨rfl,_⟩:=h;exact hX
   |full=>simp at h;obtain⟨rfl,_⟩:=h;exact hX
   |own d l=>
     dsimp only at h
     split at h
     ·split at h
      ·rename_i n hn hc
       cases h
       rw[List.append_nil,←hc.2];exact hX
      ·cases h
     ·cases h
  ·cases c with
   |no=>simp at h;obtain⟨_,rfl⟩:=h;exact hS
   |full=>simp at h;obtain⟨_,rfl⟩:=h;exact hS
   |own d l=>
     dsimp only at h
     split at h
     ·split at h
      ·rename_i n hn hc
       cases h
       obtain⟨rfl,_⟩:=hc
       exact tok_same hS hn
      ·cases h
     ·cases h
 · --something comes
  have hm:0<fs.length:=List.length_pos_iff.2 hfs
  have hs2':sz'=i.size:=hs2.resolve_right hfs
  subst hs2'
  rcases hY.sl_inv with ⟨_,_,_,e0,_⟩|⟨b2,off2,cap2,news,rfl,hfz,hfp,hle2,_,hln,hrn,_⟩
  ·exact absurd e0 hfs
  have lnews:news.length=fs.length*i.size:=by rw[←hln.1,flatten_len fs hfz]
  have olds: ∃us,(∀cs∈es,cs.length=i.size)∧(∀cs∈es,V.elemAll cs=true)∧LR s.length w γ es.flatten us∧
   ((ux= .slice none 0 0∧es=[]∧capOk s.length γ c sz none 0 0)∨ ∃a cap,ux= .slice (some a) es.length cap∧(∀j u,us[j]? =some u→w.cell? (a.add j)=some u)∧capOk s.length γ c sz (some a) es.length cap):=by
   rcases hX.sl_inv with ⟨base,cap,rfl,rfl,hco,hb0⟩|⟨b,off,cap,us,rfl,hz1,hz2,hle,hco,hlo,hro,_⟩
   ·refine⟨[],by simp,by simp,LR.nil,?_⟩
    cases base with
    |none=>have:=hb0 rfl;subst this;exact .inl ⟨rfl,rfl,hco⟩
    |some a=>exact .inr ⟨a,cap,rfl,fun j u hu=>by simp at hu,hco⟩
   ·refine⟨us,fun cs hcs=> ?_,hz2,hlo, .inr ⟨_,cap,rfl,hro.add,hco⟩⟩
    rcases hs1 with rfl|rfl
    ·exact hz1 cs hcs
    ·cases hcs
  obtain⟨us,hez,hep,hlo,hshape⟩:=olds
  have lus:us.length=es.length*i.size:=by rw[←hlo.1,flatten_len es hez]
  have newArr: ∀(d l:Nat) (g0:Option GE),d<s.length→γ d l=g0→(g0=none∨ ∃n blk,g0=some (.tok n blk))→(∀n' blk,g0=some (.tok n' blk)→n'=es.length)→
   (∀a cap,ux= .slice (some a) es.length cap→cap<es.length+fs.length)→
   ∃u w' γ',(Builtin.append_ #[t,t] ty #[ux, .slice (some ⟨b2,off2,none⟩) fs.length cap2]).run P w= .ok u w'∧VR s.length w' γ' (.sl (.own d l) i.size (es ++fs)) u∧
    SR K (sput s d l (.tok (es.length+fs.length))) w' γ'∧Ext s.length w γ w' γ':=by
   intro d l g0 hd hg0 hg htok hroom
   rcases hshape with ⟨rfl,rfl,_⟩|⟨a,cap,rfl,hro,_⟩
   ·have hu0:us=[]:=List.eq_nil_of_length_eq_zero (by simpa using lus)
    subst hu0
    simp only[List.length_nil,Nat.zero_add]at hb hl hmax h63
    have hr:=run_append_nil (P:=P) w t ty e i z ht hi hz ⟨b2,off2,none⟩ fs.length cap2 news lnews hrn.add hm h63 (by omega)
    have hge:=grownCap_ge w fs.length 0 e
    have hle:=grownCap_le_maxLen w fs.length 0 e hmax
    obtain⟨γ',h1,h2,h3⟩:=grow_ok hS hd hg0 hg (es:=[]) (fs:=fs) (n:=0) (m:=fs.length) (cap:=grownCap w fs.length 0 e) (el:=e) (z:=z.cells) rfl rfl hzs h0 (by omega) hle hm hez hfz hep hfp hlo hln htok
    simp only[Nat.zero_add,List.nil_append,Array.empty_append]at h1 h2 h3
    refine⟨_,_,γ',hr,h1,?_,h3⟩
    simpa using h2
   ·have hlt:=hroom a cap rfl
    have hr:=run_append_grow (P:=P) w t ty e i z ht hi hz a es.length cap us lus hro ⟨b2,off2,none⟩ fs.length cap2 news lnews hrn.add hlt h63 (growslice_fits hlt hb)
    have hge:=grownCap_ge w (es.length+fs.length) cap e
    have hle:=grownCap_le_maxLen w (es.length+fs.length) cap e hmax
    obtain⟨γ',h1,h2,h3⟩:=grow_ok hS hd hg0 hg (cap:=grownCap w (es.length+fs.length) cap e) (el:=e) (z:=z.cells) rfl rfl hzs h0 hge hle hm hez hfz hep hfp hlo hln htok
    exact⟨_,_,γ',hr,h1,h2,h3⟩
  cases c with
  |no=>simp[hfs]at h
  |full=>
    simp only[hfs,if_false]at h
    split at h
    ·rename_i hcond
     cases h
     have hd:=dep_succ hcond.2
     have hn:sget s (dep s) lab=none:=by simpa using hcond.1
     refine newArr _ _ none (by omega) (hS.none _ _ hn) (.inl rfl) (fun _ _ h=>by cases h) ?_
     intro a cap e
     rcases hshape with ⟨rfl,_⟩|⟨a',cap',rfl,_,hco⟩
     ·cases e
     ·cases e
      have:cap=es.length:=hco
      omega
    ·cases h
  |own d l=>
    dsimp only at h
    split at h
    ·rename_i n hn
     split at h
     ·rename_i hcond
      cases h
      obtain⟨rfl,rfl⟩:=hcond
      obtain⟨blk,hg,hblk⟩:=hS.tok hn
      cases blk with
      |none=>
        refine newArr d l _ (hS.lt hg) hg (.inr ⟨_,_,rfl⟩) (fun n' blk h=>by cases h;rfl) ?_
        intro a cap e
        rcases hshape with ⟨rfl,_⟩|⟨a',cap',rfl,_,hco⟩
        ·cases e
        ·cases e
         obtain⟨_,n',blk',hg',_,hc⟩:=hco
         rw[hg]at hg';cases hg'
         have:=hc rfl
         simp only at this
         omega
      |some y=>
        obtain⟨b0,sz0,k⟩:=y
        obtain⟨cur,el,hcur,hnk,hcs,_,hk⟩:=hblk _ _ _ rfl
        rcases hshape with ⟨rfl,rfl,hco⟩|⟨a',cap',rfl,hro,hco⟩
        · --nil and a block:the capacity is at odds
         obtain⟨_,n',blk',hg',_,hc⟩:=hco
         rw[hg]at hg';cases hg'
         have:=(hc rfl).1
         cases this
        ·obtain⟨_,n',blk',hg',_,hc⟩:=hco
         rw[hg]at hg';cases hg'
         obtain⟨e1,e2,e3⟩:=hc rfl
         cases e1
         subst e2
         subst e3
         by_cases hroom:es.length+fs.length≤cap'
         ·have hel:el=e∨True:= .inr trivial
          have hfit:es.length*i.size+news.length≤cur.size:=by rw[lnews,hcs,←Nat.add_mul];exact Nat.mul_le_mul_right _ hroom
          have hst:=run_storeCells_at P b0 (es.length*i.size) el news 0 cur w hcur (by simpa using hfit) (hln.one (fun v hv=>by
           obtain⟨cs,hcs1,hv1⟩:=List.mem_flatten.1 hv
           exact(elemAll_mem (hfp cs hcs1) v hv1).2))
          simp only[Nat.add_zero]at hst
          have hf:=run_firstCells_some (P:=P) w i.size fs.length ⟨b2,off2,none⟩ fs.length cap2 news lnews hrn.add
          have hro':RD w b0 0 us:=fun j u hu=>by have:=hro j u hu;rwa [Addr.add_lit]at this
          obtain⟨γ',h1,h2,h3⟩:=room_ok hS hg rfl rfl hroom hm hk hcur hcs h0 hez hfz hep hfp hlo hro' hln
          refine⟨_,_,γ',?_,h1,h2,h3⟩
          simp[Builtin.append_,run_underlying ht,sizeOf,typeInfo,hi,Builtin.lenOf,hroom,hf,Addr.add_lit,hst]
         ·refine newArr d l _ (hS.lt hg) hg (.inr ⟨_,_,rfl⟩) (fun n' blk h=>by cases h;rfl) ?_
          intro a cap e
          cases e
          omega
     ·cases h
    ·cases h
end
end Go.Ab

/-
  Operations: equality of structs.
-/
namespace Go.Ab
theorem eqCells_cons {k:Bool} {ks:List Bool} {a b:List V} {r:Bool}(h:eqCells (k::ks) a b=some r):
 ∃x a' y b' q r',a=x::a'∧b=y::b'∧eqCells ks a' b'=some r'∧r=(q&&r')∧(∀c d z,eqCells ks c d=some z→eqCells (k::ks) (x::c) (y::d)=some (q&&z))∧
  (∀ks' c d z,eqCells ks' c d=some z→eqCells (k::ks') (x::c) (y::d)=some (q&&z)):=by
 cases a with
 |nil=>simp[eqCells]at h
 |cons x a=>
   cases b with
   |nil=>cases k<;>cases x<;>simp[eqCells]at h
   |cons y b=>
     cases k<;>cases x<;>cases y<;>simp only[eqCells,reduceCtorEq]at h
     ·rename_i p q
      obtain⟨r',h1,h2⟩:=Option.map_eq_some_iff.1 h
      exact⟨_,_,_,_,p==q,r',rfl,rfl,h1,h2.symm,fun c d z hz=>by simp only[eqCells,hz,Option.map_some],fun ks' c d z hz=>by simp only[eqCells,hz,Option.map_some]⟩
     ·rename_i k1 p k2 q
      split at h
      ·rename_i hk
       obtain⟨r',h1,h2⟩:=Option.map_eq_some_iff.1 h
       exact⟨_,_,_,_,p==q,r',rfl,rfl,h1,h2.symm,fun c d z hz=>by simp only[eqCells,hk,if_true,hz,Option.map_some],fun ks' c d z hz=>by simp only[eqCells,hk,if_true,hz,Option.map_some]⟩
      ·cases h
theorem eqCells_len: ∀ {ks:List Bool} {a b:List V} {r:Bool},eqCells ks a b=some r→a.length=ks.length∧b.length=ks.length:=by
 intro ks
 induction ks with
 |nil=>
   intro a b r h
   cases a<;>cases b<;>simp[eqCells]at h⊢
 |cons k ks ih=>
   intro a b r h
   obtain⟨x,a',y,b',q,r',rfl,rfl,h1,_⟩:=eqCells_cons h
   have:=ih h1
   simp[this.1,this.2]
theorem eqCells_append: ∀ {k1 k2:List Bool} {a b:List V} {r:Bool},eqCells (k1 ++k2) a b=some r→
 ∃r1 r2,eqCells k1 (a.take k1.length) (b.take k1.length)=some r1∧eqCells k2 (a.drop k1.length) (b.drop k1.length)=some r2∧r=(r1&&r2):=by
 intro k1
 induction k1 with
 |nil=>intro k2 a b r h;exact⟨true,r,by simp[eqCells],by simpa using h,by simp⟩
 |cons k k1 ih=>
   intro k2 a b r h
   obtain⟨x,a',y,b',q,r',rfl,rfl,h1,rfl,_,h3⟩:=eqCells_cons h
   obtain⟨r1,r2,e1,e2,rfl⟩:=ih h1
   exact⟨q&&r1,r2,by simpa using h3 k1 _ _ _ e1,by simpa using e2,by simp[Bool.and_assoc]⟩
section
variable {P : Program} {D : Nat} {w : World} {γ : G}
def valAt(P:Program)(t:TypeId)(us:List Value):Value:=
 match isAggT P t,us with
 |some false,[u]=>u
 |_,us=> .agg us.toArray
theorem eq_plain: ∀(d:Nat),(∀(t:TypeId) (ks:List Bool),plainKs P d t=some ks→ ∀(xs ys:List V) (us vs:List Value) (r:Bool),LR D w γ xs us→LR D w γ ys vs→eqCells ks xs ys=some r→
 ∀k,d≤k→(Op.equalIn k t (valAt P t us) (valAt P t vs)).run P w= .ok r w)∧
 (∀(fs:List Field) (n0:Nat) (ks:List Bool),plainFs P d fs n0=some ks→ ∀(xs ys:List V) (us vs:List Value) (r:Bool),LR D w γ xs us→LR D w γ ys vs→eqCells ks (xs.drop n0) (ys.drop n0)=some r→
   ∀k,d≤k→(Op.eqFields k us.toArray vs.toArray fs).run P w= .ok r w):=by
 intro d
 induction d with
 |zero=>exact⟨fun t n h=>by simp[plainKs]at h,fun fs n0 n h=>by simp[plainFs]at h⟩
 |succ d ih=>
   refine⟨fun t ks h xs ys us vs r hus hvs he k hk=> ?_,fun fs n0 ks h xs ys us vs r hus hvs he k hk=> ?_⟩
   ·obtain⟨k,rfl⟩: ∃k',k=k'+1:=⟨k-1,by omega⟩
    simp only[plainKs]at h
    split at h
    ·rename_i kk ht
     cases h
     have e1:isAggT P t=some false:=by simp[isAggT,ht]
     obtain⟨l1,l2⟩:=eqCells_len he
     obtain⟨x,rfl⟩:=List.length_eq_one_iff.1 l1
     obtain⟨y,rfl⟩:=List.length_eq_one_iff.1 l2
     obtain⟨u,us',rfl,hu,hus'⟩:=hus.inv
     obtain⟨v,vs',rfl,hv,hvs'⟩:=hvs.inv
     cases List.eq_nil_of_length_eq_zero (by simpa using hus'.1.symm)
     cases List.eq_nil_of_length_eq_zero (by simpa using hvs'.1.symm)
     simp only[valAt,e1]
     cases x<;>cases y<;>simp[eqCells]at he
     obtain⟨rfl,rfl⟩:=he
     rw[hu.int_inv,hv.int_inv,run_equalIn_int w k t _ kk _ _ ht]
    ·rename_i ht
     cases h
     have e1:isAggT P t=some false:=by simp[isAggT,ht]
     obtain⟨l1,l2⟩:=eqCells_len he
     obtain⟨x,rfl⟩:=List.length_eq_one_iff.1 l1
     obtain⟨y,rfl⟩:=List.length_eq_one_iff.1 l2
     obtain⟨u,us',rfl,hu,hus'⟩:=hus.inv
     obtain⟨v,vs',rfl,hv,hvs'⟩:=hvs.inv
     cases List.eq_nil_of_length_eq_zero (by simpa using hus'.1.symm)
     cases List.eq_nil_of_length_eq_zero (by simpa using hvs'.1.symm)
     simp only[valAt,e1]
     cases x<;>cases y<;>simp[eqCells]at he
     subst he
     rw[hu.bool_inv,hv.bool_inv,run_equalIn_bool' w k t _ _ ht]
    ·rename_i fs ht
     split at h
     ·cases h
     ·rename_i hst
      have e1:isAggT P t=some true:=by simp[isAggT,ht]
      have e2:P.fieldsOf t=fs:=by simp[Program.fieldsOf,ht]
      have hv1: ∀us:List Value,valAt P t us= .agg us.toArray:=fun us=>by simp[valAt,e1]
      rw[hv1,hv1,run_equalIn_struct w k t _ _ (by rw[e2];exact ht) (by simpa using hst),e2]
      exact ih.2 fs.toList 0 ks h xs ys us vs r hus hvs (by simpa using he) k (by omega)
    ·cases h
   ·cases fs with
    |nil=>
      simp only[plainFs]at h
      cases h
      have:r=true:=by
       generalize List.drop n0 xs=p at he
       generalize List.drop n0 ys=q at he
       cases p<;>cases q<;>simp[eqCells]at he
       exact he
      subst this
      rfl
    |cons f rest=>
      simp only[plainFs]at h
      split at h
      ·rename_i hf
       split at h
       ·rename_i k1 hk1
        split at h
        ·rename_i hsz
         obtain⟨k2,hk2,rfl⟩:=Option.map_eq_some_iff.1 h
         obtain⟨r1,r2,c1,c2,rfl⟩:=eqCells_append he
         have hpart: ∀(zs:List V) (ts:List Value),LR D w γ zs ts→((zs.drop n0).take k1.length).length=k1.length→
          (Go.part f.type ts.toArray f.offset).run P w= .ok (valAt P f.type ((ts.drop n0).take k1.length)) w:=by
          intro zs ts hl hlen
          rw[hf.2]
          have hlt:k1.length≤ts.length-n0:=by rw[←hl.1];simp at hlen;omega
          have hagg: ∃b,isAggT P f.type=some b:=by
           cases d with
           |zero=>simp[plainKs]at hk1
           |succ d=>
             simp only[plainKs]at hk1
             unfold isAggT
             split at hk1<;>rename_i hu<;>simp[hu]at hk1⊢
          obtain⟨b,hb⟩:=hagg
          unfold Go.part
          cases b with
          |true=>simp[run_isAgg hb,run_sizeOf' hsz,valAt,hb,List.take_drop]
          |false=>
            have hone:k1.length=1:=by
             cases d with
             |zero=>simp[plainKs]at hk1
             |succ d=>
               simp only[plainKs]at hk1
               unfold isAggT at hb
               split at hk1<;>rename_i hu<;>simp[hu]at hk1 hb<;>try (subst hk1;rfl)
            rw[hone]at hlt⊢
            have hn:n0<ts.length:=by omega
            have:(ts.drop n0).take 1=[ts[n0]]:=by
             rw[List.drop_eq_getElem_cons hn,List.take_succ_cons,List.take_zero]
            simp[run_isAgg hb,hn,valAt,hb,this]
         have hx:=hpart xs us hus (eqCells_len c1).1
         have hy:=hpart ys vs hvs (eqCells_len c1).2
         have heq:=ih.1 f.type k1 hk1 _ _ _ _ r1 ((hus.drop n0).take k1.length) ((hvs.drop n0).take k1.length) c1 k (by omega)
         have hrest:=ih.2 rest (n0+k1.length) k2 hk2 xs ys us vs r2 hus hvs (by simpa [Nat.add_comm]using c2) k (by omega)
         simp only[Op.eqFields,hf.1,ne_eq,not_false_eq_true,if_true,Sem.run_bind,hx,hy,heq,Result.andThen_ok,Sem.run_ite,hrest,Sem.run_pure]
         cases r1<;>simp
        ·cases h
       ·cases h
      ·cases h
theorem eqa_ok {t:TypeId} {ks:List Bool}(ht:plainT P t=some ks)(hstr: ∃fs,P.underlying t=some (.struct fs)) {xs ys:List V} {u v:Value}(hu:VR D w γ (.agg xs) u)(hv:VR D w γ (.agg ys) v) {r:Bool}(he:eqCells ks xs ys=some r)
 (op:BinOp) (hop:op= .eql∨op= .neq) (x y:Operand):
 ((do eqGuard op t x y u v;Go.binOp op t u v:Sem Value)).run P w= .ok (.bool (if op= .neq then !r else r)) w:=by
 unfold plainT at ht
 split at ht
 ·cases ht
 ·rename_i hg
  obtain⟨fs,hfs⟩:=hstr
  obtain⟨us,rfl,hus⟩:=hu.agg_inv
  obtain⟨vs,rfl,hvs⟩:=hv.agg_inv
  have hagg:isAggT P t=some true:=by simp[isAggT,hfs]
  have:=(eq_plain 40).1 t ks ht xs ys us.toList vs.toList r hus hvs he 10000 (by omega)
  simp only[valAt,hagg]at this
  have e1: ∀zs:Array Value,zs.toList.toArray=zs:=fun zs=>by simp
  simp only[Sem.run_bind,run_eqGuard_agg w op t x y us vs (by simpa using hg),Result.andThen_ok]
  rcases hop with rfl|rfl
  ·rw[run_eql_struct];simp only[e1]at this;rw[this];rfl
  ·rw[run_neq_struct];simp only[e1]at this;rw[this];rfl
end
end Go.Ab

/-
  Operations: the others, and all together: 'op_sound'.
-/
namespace Go.Ab
section
variable {K : KK} {P : Program} {s : Stk} {w : World} {γ : G} {e : Env} {a : Act}
theorem foldl_set_toList: ∀(vs:List Value) (cs:Array Value) (off j:Nat),
 ((vs.zipIdx j).foldl (fun cs (x:Value×Nat)=>cs.setIfInBounds (off+x.2) x.1) cs).toList=(vs.zipIdx j).foldl (fun cs (x:Value×Nat)=>cs.set (off+x.2) x.1) cs.toList
 |[],cs,off,j=>rfl
 |v::r,cs,off,j=>by
   simp only[List.zipIdx_cons,List.foldl_cons]
   rw[foldl_set_toList r]
   simp
theorem LR.setAll {D:Nat}: ∀(vs:List V) (us:List Value) (cs:List V) (ds:List Value) (off j:Nat),LR D w γ vs us→LR D w γ cs ds→
 LR D w γ (setAll cs (off+j) vs) ((us.zipIdx j).foldl (fun cs (x:Value×Nat)=>cs.set (off+x.2) x.1) ds)
 |[],us,cs,ds,off,j,h,hd=>by
   cases List.eq_nil_of_length_eq_zero (by simpa using h.1.symm)
   simpa [Ab.setAll]using hd
 |v::r,us,cs,ds,off,j,h,hd=>by
   obtain⟨u,us',rfl,h1,h2⟩:=h.inv
   simp only[Ab.setAll,List.zipIdx_cons,List.foldl_cons]
   exact LR.setAll r us' _ _ off (j+1) h2 (hd.set _ h1)
theorem fill_step {D:Nat} {place:Nat→Option (Nat×Nat)} {i off size:Nat}(hp:place i=some (off,size)) {v:V} {u:Value}(hv:LR D w γ v.cells u.cells.toList)(hlen:v.cells.length=size)
 {cs:List V} {ds:Array Value} (hd:LR D w γ cs ds.toList) (hle:off+size≤cs.length) (rest:List (Nat×Value)):
 ∃ds',Instr.fill place ds ((i,u)::rest)=Instr.fill place ds' rest∧LR D w γ (setAll cs off v.cells) ds'.toList:=by
 have hl:u.cells.size=size:=by rw[←hlen,hv.1];simp
 refine⟨u.cells.zipIdx.foldl (fun cs (c,j)=>cs.setIfInBounds (off+j) c) ds,?_,?_⟩
 ·have h2: ¬(ds.size<off+size):=by have:=hd.1;simp at this;omega
  simp[Instr.fill,hp,hl,h2]
 ·have h1:(u.cells.zipIdx.foldl (fun cs (x:Value×Nat)=>cs.setIfInBounds (off+x.2) x.1) ds).toList=(u.cells.toList.zipIdx 0).foldl (fun cs (x:Value×Nat)=>cs.set (off+x.2) x.1) ds.toList:=by
   rw[←Array.foldl_toList,Array.toList_zipIdx]
   exact foldl_set_toList _ _ _ _
  show LR D w γ _ (u.cells.zipIdx.foldl (fun cs (x:Value×Nat)=>cs.setIfInBounds (off+x.2) x.1) ds).toList
  rw[h1]
  simpa using LR.setAll v.cells u.cells.toList cs ds.toList off 0 hv hd
theorem fill_struct(hE:ER s.length w γ e a) {fs:Array Field} {place:Nat→Option (Nat×Nat)}(hplace: ∀(i:Nat) f n,fs[i]? =some f→sizeT P f.type=some n→place i=some (f.offset,n)):
 ∀ {ps:List (Nat×Operand)} {qs:List (Nat×Nat×Opd)},parts P fs ps=some qs→ ∀ {cs cs':List V} {ds:Array Value},fillAll e qs cs=some cs'→LR s.length w γ cs ds.toList→
  ∃ds',Instr.fill place ds (ps.map fun x=>(x.1,a.eval x.2))=some ds'∧LR s.length w γ cs' ds'.toList
 |[],qs,h,cs,cs',ds,hf,hd=>by simp[parts]at h;subst h;simp[fillAll]at hf;subst hf;exact⟨ds,rfl,hd⟩
 |(i,x)::r,qs,h,cs,cs',ds,hf,hd=>by
   unfold parts at h
   split at h
   ·rename_i f r' h1 h2
    split at h
    ·rename_i n y h3 h4
     cases h
     simp only[fillAll]at hf
     split at hf
     ·rename_i hc
      simp only[Bool.and_eq_true,decide_eq_true_eq]at hc
      have hv:=(hE.opdT h4).cells hc.2
      obtain⟨ds1,e1,hd1⟩:=fill_step (hplace i f n h1 h3) hv (by simpa using hc.1.1) hd (by simpa using hc.1.2) (r.map fun x=>(x.1,a.eval x.2))
      obtain⟨ds2,e2,hd2⟩:=fill_struct hE hplace h2 hf hd1
      exact⟨ds2,by simp only[List.map_cons];rw[e1,e2],hd2⟩
     ·cases hf
    ·cases h
   ·cases h
theorem fill_array(hE:ER s.length w γ e a) {el:TypeId} {n:Nat}:
 ∀ {ps:List (Nat×Operand)} {qs:List (Nat×Nat×Opd)},partsA P el n ps=some qs→ ∀ {cs cs':List V} {ds:Array Value},fillAll e qs cs=some cs'→LR s.length w γ cs ds.toList→
  ∃ds',Instr.fill (fun i=>some (i*n,n)) ds (ps.map fun x=>(x.1,a.eval x.2))=some ds'∧LR s.length w γ cs' ds'.toList
 |[],qs,h,cs,cs',ds,hf,hd=>by simp[partsA]at h;subst h;simp[fillAll]at hf;subst hf;exact⟨ds,rfl,hd⟩
 |(i,x)::r,qs,h,cs,cs',ds,hf,hd=>by
   unfold partsA at h
   split at h
   ·rename_i y r' h1 h2
    cases h
    simp only[fillAll]at hf
    split at hf
    ·rename_i hc
     simp only[Bool.and_eq_true,decide_eq_true_eq]at hc
     have hv:=(hE.opdT h1).cells hc.2
     obtain⟨ds1,e1,hd1⟩:=fill_step (place:=fun i=>some (i*n,n)) (i:=i) rfl hv (by simpa using hc.1.1) hd (by simpa using hc.1.2) (r.map fun x=>(x.1,a.eval x.2))
     obtain⟨ds2,e2,hd2⟩:=fill_array hE h2 hf hd1
     exact⟨ds2,by simp only[List.map_cons];rw[e1,e2],hd2⟩
    ·cases hf
   ·cases h
theorem zeroT_ok {t:TypeId} {z:List V}(h:zeroT P t=some z)(D:Nat)(w:World)(γ:G):
 ∃i v,P.info? t=some i∧i.zero=some v∧LR D w γ z v.cells.toList∧(zeroValue t).run P w= .ok v w:=by
 unfold zeroT at h
 split at h
 ·rename_i i hi
  split at h
  ·rename_i v hv
   obtain⟨l,h1,rfl⟩:=Option.map_eq_some_iff.1 h
   exact⟨i,v,hi,hv,LR.nilsAs (LR.cvL h1),by simp[zeroValue,typeInfo,hi,hv]⟩
  ·cases h
 ·cases h
mutual
theorem VR.strip' {D:Nat} {w:World} {γ:G}: ∀(v:V) (u:Value),VR D w γ v u→VR D w γ v.strip u
 | .agg cs,u,h=>by
   obtain⟨us,rfl,hl⟩:=h.agg_inv
   have:=VR.agg_mk (LR.strip' cs us.toList hl)
   simpa [V.strip]using this
 | .tup cs,u,h=>by
   obtain⟨us,rfl,hl⟩:=h.tup_inv
   have:=VR.tup_mk (LR.strip' cs us.toList hl)
   simpa [V.strip]using this
 | .sl c z es,u,h=>by simpa [V.strip]using h.forget
 | .fn f as bs,u,h=>by
   cases h with
   |fn _ _ _ us ws h1 h2 k1 k2=>
     have e1:=LR.strip' as us.toList ⟨by simpa using h1,fun i v u hv hu=>k1 i v u hv (by simpa using hu)⟩
     have e2:=LR.strip' bs ws.toList ⟨by simpa using h2,fun i v u hv hu=>k2 i v u hv (by simpa using hu)⟩
     have:=VR.fn_mk (f:=f) e1 e2
     simpa [V.strip]using this
 | .undef,u,h=>by simpa [V.strip]using h
 | .skip,u,h=>by simpa [V.strip]using h
 | .int k n,u,h=>by simpa [V.strip]using h
 | .bool b,u,h=>by simpa [V.strip]using h
 | .anyb,u,h=>by simpa [V.strip]using h
 | .csl p n,u,h=>by
   cases h with
   |csl _ _ cap a hle h=>simpa only[V.strip]using VR.csl _ n cap a hle (VR.strip' p _ h)
 | .mp p,u,h=>by
   cases h with
   |mp _ q h=>simpa only[V.strip]using VR.mp _ q (VR.strip' p _ h)
 | .nilp,u,h=>by simpa [V.strip]using h
 | .ptr d l o,u,h=>by simpa [V.strip]using h
 | .ep cs,u,h=>by simpa [V.strip]using h
 | .nilf,u,h=>by simpa [V.strip]using h
 | .yld d l,u,h=>by simpa [V.strip]using h
 | .asl d l z n o k,u,h=>by simpa [V.strip]using h
 | .eptr d l n i j,u,h=>by simpa [V.strip]using h
theorem LR.strip' {D:Nat} {w:World} {γ:G}: ∀(vs:List V) (us:List Value),LR D w γ vs us→LR D w γ (V.stripAll vs) us
 |[],us,h=>by simpa [V.stripAll]using h
 |v::r,us,h=>by
   obtain⟨u,us',rfl,h1,h2⟩:=h.inv
   exact LR.cons (VR.strip' v u h1) (LR.strip' r us' h2)
end
theorem pureAll_mem {vs:List V}(h:V.pureAll vs=true): ∀v∈vs,v.pure=true:=by
 induction vs with
 |nil=>simp
 |cons x r ih=>simp[V.pureAll]at h;intro v hv;cases hv with
   |head=>exact h.1
   |tail _ hv=>exact ih h.2 v hv
theorem VR.pure' {D:Nat} {w:World} {γ:G} {v:V} {u:Value}(h:VR D w γ v u)(D':Nat):v.pure=true→VR D' w γ v u:=by
 induction h with
 |undef u=>exact fun _=> .undef u
 |skip=>exact fun _=> .skip
 |int k n=>exact fun _=> .int k n
 |bool b=>exact fun _=> .bool b
 |anyb b=>exact fun _=> .anyb b
 |csl p n cap a hle _ ih=>exact fun hp=>by simp[V.pure]at hp
 |mp p q _ ih=>exact fun hp=> .mp p q (ih (by simpa [V.pure]using hp))
 |agg cs us hl _ ih=>exact fun hp=> .agg cs us hl fun i v u hv hu=>ih i v u hv hu (pureAll_mem (by simpa [V.pure]using hp) v (List.mem_of_getElem? hv))
 |tup cs us hl _ ih=>exact fun hp=> .tup cs us hl fun i v u hv hu=>ih i v u hv hu (pureAll_mem (by simpa [V.pure]using hp) v (List.mem_of_getElem? hv))
 |nilp=>exact fun _=> .nilp
 |ptr d l off b hd hb=>exact fun hp=>by simp[V.pure]at hp
 |ep cs b off _ hc hno _ ih=>exact fun hp=>by simp[V.pure]at hp
 |slnil c sz hcap=>exact fun hp=>by simp[V.pure]at hp;subst hp;exact .slnil _ _ trivial
 |sl0 c sz a cap hcap=>exact fun hp=>by simp[V.pure]at hp;subst hp;exact .sl0 _ _ a cap trivial
 |sl c sz es b off cap hsz hp hle hcap hc hno _ ih=>
   intro hpu
   simp[V.pure]at hpu;subst hpu
   exact .sl _ sz es b off cap hsz hp hle trivial hc hno fun i cs j v u h1 h2 hu=>ih i cs j v u h1 h2 hu (elemAll_mem (hp cs (List.mem_of_getElem? h1)) v (List.mem_of_getElem? h2)).1
 |fn f first cap us ws h1 h2 _ _ i1 i2=>
   intro hp
   simp[V.pure]at hp
   exact .fn f first cap us ws h1 h2 (fun i v u hv hu=>i1 i v u hv hu (pureAll_mem hp.1 v (List.mem_of_getElem? hv))) (fun i v u hv hu=>i2 i v u hv hu (pureAll_mem hp.2 v (List.mem_of_getElem? hv)))
 |nilf=>exact fun _=> .nilf
 |yld d l b hd hb=>exact fun hp=>by simp[V.pure]at hp
 |asl d l sz n off len b k hd hb hle hk=>exact fun hp=>by simp[V.pure]at hp
 |aslnil d l sz base hd hb=>exact fun hp=>by simp[V.pure]at hp
 |aslold d l sz n off len N blk base ln cp hd hb hn=>exact fun hp=>by simp[V.pure]at hp
 |eptr d l n i j b sz k hd hb=>exact fun hp=>by simp[V.pure]at hp
 |eptrold d l n i j N blk p hd hb hn=>exact fun hp=>by simp[V.pure]at hp
 |aslh d l sz n off len lo N f hd hb hn hle hk=>exact fun hp=>by simp[V.pure]at hp
 |eptrh d l n i j sz lo N f hd hb hn=>exact fun hp=>by simp[V.pure]at hp
 |aslho d l sz n off len lo N sz' f base ln cp hd hb hn=>exact fun hp=>by simp[V.pure]at hp
 |eptrho d l n i j lo N sz' f p hd hb hn=>exact fun hp=>by simp[V.pure]at hp
mutual
theorem VR.down' {D d:Nat} {w:World} {γ:G}: ∀(v v':V) (u:Value),VR D w γ v u→v.down d=some v'→VR (d+1) w γ v' u
 | .agg cs,v',u,h,hd=>by
   obtain⟨us,rfl,hl⟩:=h.agg_inv
   simp only[V.down]at hd
   obtain⟨l,h1,rfl⟩:=Option.map_eq_some_iff.1 hd
   simpa using VR.agg_mk (LR.down' cs l us.toList hl h1)
 | .tup cs,v',u,h,hd=>by
   obtain⟨us,rfl,hl⟩:=h.tup_inv
   simp only[V.down]at hd
   obtain⟨l,h1,rfl⟩:=Option.map_eq_some_iff.1 hd
   simpa using VR.tup_mk (LR.down' cs l us.toList hl h1)
 | .sl c z es,v',u,h,hd=>by
   simp only[V.down,Option.some.injEq]at hd
   subst hd
   have cap: ∀ {sz base len k},capOk D γ c sz base len k→capOk (d+1) γ (c.down d) sz base len k:=by
    intro sz base len k hc
    cases c with
    |no=>trivial
    |full=>exact hc
    |own d' l=>
      simp only[Cap.down]
      split
      ·trivial
      ·obtain⟨_,r⟩:=hc;exact⟨by omega,r⟩
   cases h with
   |slnil _ _ hc=>exact .slnil _ _ (cap hc)
   |sl0 _ _ a k hc=>exact .sl0 _ _ a k (cap hc)
   |sl _ _ _ b off k hsz hp hle hcap hc hno h=>
     refine .sl _ _ _ b off k hsz hp hle (cap hcap) hc hno (fun i cs j v u h1 h2 hu=> ?_)
     have hel:=elemAll_mem (hp cs (List.mem_of_getElem? h1)) v (List.mem_of_getElem? h2)
     exact(h i cs j v u h1 h2 hu).pure' _ hel.1
 | .fn f as bs,v',u,h,hd=>by
   simp only[V.down]at hd
   split at hd
   ·rename_i p q h1 h2
    cases hd
    cases h with
    |fn _ _ _ us ws l1 l2 k1 k2=>
      have e1:=LR.down' as p us.toList ⟨by simpa using l1,fun i v u hv hu=>k1 i v u hv (by simpa using hu)⟩ h1
      have e2:=LR.down' bs q ws.toList ⟨by simpa using l2,fun i v u hv hu=>k2 i v u hv (by simpa using hu)⟩ h2
      simpa using VR.fn_mk (f:=f) e1 e2
   ·cases hd
 | .undef,v',u,h,hd=>by simp[V.down]at hd;subst hd;exact .undef u
 | .skip,v',u,h,hd=>by simp[V.down]at hd;subst hd;cases h;exact .skip
 | .int k n,v',u,h,hd=>by simp[V.down]at hd;subst hd;cases h;exact .int k n
 | .bool b,v',u,h,hd=>by simp[V.down]at hd;subst hd;cases h;exact .bool b
 | .anyb,v',u,h,hd=>by simp[V.down]at hd;subst hd;cases h;exact .anyb _
 | .csl p n,v',u,h,hd=>by
   simp only[V.down]at hd
   obtain⟨q,h1,rfl⟩:=Option.map_eq_some_iff.1 hd
   cases h with
   |csl _ _ cap a hle h=>exact .csl q n cap a hle (VR.down' p q _ h h1)
 | .mp p,v',u,h,hd=>by
   simp only[V.down]at hd
   obtain⟨q,h1,rfl⟩:=Option.map_eq_some_iff.1 hd
   cases h with
   |mp _ z h=>exact .mp q z (VR.down' p q _ h h1)
 | .nilp,v',u,h,hd=>by simp[V.down]at hd;subst hd;cases h;exact .nilp
 | .ptr d' l o,v',u,h,hd=>by
   simp only[V.down]at hd
   split at hd
   ·cases hd
   ·cases hd
    cases h with
    |ptr _ _ _ b _ hb=>exact .ptr _ _ _ b (by omega) hb
 | .ep cs,v',u,h,hd=>by simp[V.down]at hd
 | .nilf,v',u,h,hd=>by simp[V.down]at hd;subst hd;cases h;exact .nilf
 | .yld d' l,v',u,h,hd=>by
   simp only[V.down]at hd
   split at hd
   ·cases hd
   ·cases hd
    cases h with
    |yld _ _ b _ hb=>exact .yld _ _ b (by omega) hb
 | .asl d' l z n o k,v',u,h,hd=>by
   simp only[V.down]at hd
   split at hd
   ·cases hd
   ·cases hd
    cases h with
    |asl _ _ _ _ _ _ b k _ hb hle hk=>exact .asl _ _ _ _ _ _ b k (by omega) hb hle hk
    |aslnil _ _ _ base _ hb=>exact .aslnil _ _ _ base (by omega) hb
    |aslold _ _ _ _ _ _ N blk base ln cp _ hb hn2=>exact .aslold _ _ _ _ _ _ N blk base ln cp (by omega) hb hn2
    |aslh _ _ _ _ _ _ lo N f _ hb hn2 hle hk=>exact .aslh _ _ _ _ _ _ lo N f (by omega) hb hn2 hle hk
    |aslho _ _ _ _ _ _ lo N sz' f base ln cp _ hb hn2=>exact .aslho _ _ _ _ _ _ lo N sz' f base ln cp (by omega) hb hn2
 | .eptr d' l n i j,v',u,h,hd=>by
   simp only[V.down]at hd
   split at hd
   ·cases hd
   ·cases hd
    cases h with
    |eptr _ _ _ _ _ b sz k _ hb=>exact .eptr _ _ _ _ _ b sz k (by omega) hb
    |eptrold _ _ _ _ _ N blk p _ hb hn2=>exact .eptrold _ _ _ _ _ N blk p (by omega) hb hn2
    |eptrh _ _ _ _ _ sz lo N f _ hb hn2=>exact .eptrh _ _ _ _ _ sz lo N f (by omega) hb hn2
    |eptrho _ _ _ _ _ lo N sz' f p _ hb hn2=>exact .eptrho _ _ _ _ _ lo N sz' f p (by omega) hb hn2
theorem LR.down' {D d:Nat} {w:World} {γ:G}: ∀(vs vs':List V) (us:List Value),LR D w γ vs us→V.downAll d vs=some vs'→LR (d+1) w γ vs' us
 |[],vs',us,h,hd=>by simp[V.downAll]at hd;subst hd;exact⟨h.1,fun i v u hv=>by simp at hv⟩
 |v::r,vs',us,h,hd=>by
   obtain⟨u,us',rfl,h1,h2⟩:=h.inv
   simp only[V.downAll]at hd
   split at hd
   ·rename_i a b h3 h4
    cases hd
    exact LR.cons (VR.down' v a u h1 h3) (LR.down' r b us' h2 h4)
   ·cases hd
end
end
end Go.Ab

/-
  Operations: struct values and slice literals.
-/
namespace Go.Ab
section
variable {K : KK} {P : Program} {s : Stk} {w : World} {γ : G} {e : Env} {a : Act}
theorem mapM_places: ∀(fs:List Field),(fs.all fun f=>(P.info? f.type).isSome)=true→
 fs.mapM (fun f=>(P.info? f.type).map fun i=>(f.offset,i.size))=some (fs.map fun f=>(f.offset,((P.info? f.type).map (·.size)).getD 0))
 |[],_=>rfl
 |f::r,h=>by
   simp only[List.all_cons,Bool.and_eq_true]at h
   obtain⟨i,hi⟩:=Option.isSome_iff_exists.1 h.1
   simp[List.mapM_cons,hi,mapM_places r h.2]
theorem build_ok(hS:SR K s w γ)(hE:ER s.length w γ e a) {t:TypeId} {ps:Array (Nat×Operand)} {ao:AOp}
 (h:(match P.underlying t,zeroT P t with
 |some (.struct fs),some z=>if fs.toList.all fun f=>(P.info? f.type).isSome then(parts P fs ps.toList).map (AOp.build z)else none
 |some (.array _ el),some z=>match sizeT P el with
   |some n=>(partsA P el n ps.toList).map (AOp.build z)
   |none=>none
 |_,_=>none)=some ao) {lab:Nat} {v:V} {f:Eff} (hv:aop ao lab e s=some (v,f)):
 OpOk K s w γ ((do pure (Next.value (←Instr.build t (ps.map fun(i,x)=>(i,a.eval x)))):Sem Next).run P w) v f:=by
 have hps:(ps.map fun(i,x)=>(i,a.eval x)).toList=ps.toList.map fun x=>(x.1,a.eval x.2):=by simp
 have fin: ∀(cs:List V) (us:Array Value),P.built t (ps.map fun(i,x)=>(i,a.eval x)).toList=some us→LR s.length w γ cs us.toList→
  OpOk K s w γ ((do pure (Next.value (←Instr.build t (ps.map fun(i,x)=>(i,a.eval x)))):Sem Next).run P w) (.agg cs) none:=by
  intro cs us hb hl
  simp only[Sem.run_bind,run_build w t _ us hb,Result.andThen_ok,Sem.run_pure]
  exact OpOk.val hS (by simpa using VR.agg_mk hl)
 split at h
 ·rename_i fs z hu hz
  split at h
  ·rename_i hall
   obtain⟨qs,hq,rfl⟩:=Option.map_eq_some_iff.1 h
   simp only[aop]at hv
   obtain⟨cs,hc,hv⟩:=Option.map_eq_some_iff.1 hv
   cases hv
   obtain⟨i,zv,hi,hz',hl,_⟩:=zeroT_ok hz s.length w γ
   have hpl:=mapM_places (P:=P) fs.toList hall
   obtain⟨us,hf,hl'⟩:=fill_struct (P:=P) hE (place:=((fs.toList.map fun f=>(f.offset,((P.info? f.type).map (·.size)).getD 0)).toArray[·]?)) (fs:=fs) (fun i f n h1 h2=>by
    unfold sizeT at h2
    cases hif:P.info? f.type with
    |none=>rw[hif]at h2;cases h2
    |some inf=>
      rw[hif]at h2;simp at h2
      simp[h1,hif,h2]) hq hc hl
   refine fin cs us ?_ hl'
   unfold Program.built
   simp only[hi,hu,hz',hpl,hps]
   exact hf
  ·cases h
 ·rename_i n el z hu hz
  split at h
  ·rename_i m hm
   obtain⟨qs,hq,rfl⟩:=Option.map_eq_some_iff.1 h
   simp only[aop]at hv
   obtain⟨cs,hc,hv⟩:=Option.map_eq_some_iff.1 hv
   cases hv
   obtain⟨i,zv,hi,hz',hl,_⟩:=zeroT_ok hz s.length w γ
   obtain⟨us,hf,hl'⟩:=fill_array (P:=P) hE hq hc hl
   refine fin cs us ?_ hl'
   unfold sizeT at hm
   cases hie:P.info? el with
   |none=>rw[hie]at hm;cases hm
   |some ie=>
     rw[hie]at hm;simp at hm
     unfold Program.built
     simp only[hi,hu,hz',hie,hps,hm]
     exact hf
  ·cases h
 ·cases h
theorem flatten_set {sz:Nat}: ∀(es:List (List V)) (i:Nat) (v:List V),(∀cs∈es,cs.length=sz)→v.length=sz→i<es.length→setAll es.flatten (i*sz) v=(es.set i v).flatten
 |[],i,v,_,_,hi=>by simp at hi
 |cs::r,i,v,h,hv,hi=>by
   have hc:cs.length=sz:=h cs (by simp)
   have hr: ∀x∈r,x.length=sz:=fun x hx=>h x (by simp[hx])
   have hfl:=flatten_len r hr
   cases i with
   |zero=>
     rw[setAll_eq _ _ _ (by simp;omega)]
     simp only[Nat.zero_mul,List.take_zero,List.nil_append,Nat.zero_add,List.flatten_cons,List.set_cons_zero]
     rw[List.drop_append_of_le_length (by omega),List.drop_eq_nil_of_le (by omega),List.nil_append]
   |succ i=>
     have hi':i<r.length:=by simpa using hi
     have hle:(i+1)*sz≤r.length*sz:=Nat.mul_le_mul_right _ hi'
     have hmul:(i+1)*sz=i*sz+sz:=by rw[Nat.add_mul];omega
     have ih:=flatten_set r i v hr hv hi'
     rw[setAll_eq _ _ _ (by omega)]at ih
     rw[setAll_eq _ _ _ (by simp only[List.flatten_cons,List.length_append];omega)]
     simp only[List.flatten_cons,List.set_cons_succ]
     rw[←ih,hmul,show i*sz+sz=cs.length+i*sz by omega,List.take_length_add_append,show cs.length+i*sz+v.length=cs.length+(i*sz+v.length)by omega,List.drop_length_add_append]
     simp
theorem fill_lit(hE:ER s.length w γ e a) {el:TypeId} {n:Nat}:
 ∀ {ps:List (Nat×Operand)} {qs:List (Nat×Opd)},partsL P el ps=some qs→ ∀ {es es':List (List V)} {ds:Array Value},litAll e n qs es=some es'→(∀cs∈es,cs.length=n)→(∀cs∈es,V.elemAll cs=true)→LR s.length w γ es.flatten ds.toList→
  ∃ds',Instr.fill (fun i=>some (i*n,n)) ds (ps.map fun x=>(x.1,a.eval x.2))=some ds'∧LR s.length w γ es'.flatten ds'.toList∧(∀cs∈es',cs.length=n)∧(∀cs∈es',V.elemAll cs=true)∧es'.length=es.length
 |[],qs,h,es,es',ds,hf,hz,hp,hd=>by simp[partsL]at h;subst h;simp[litAll]at hf;subst hf;exact⟨ds,rfl,hd,hz,hp,rfl⟩
 |(i,x)::r,qs,h,es,es',ds,hf,hz,hp,hd=>by
   unfold partsL at h
   split at h
   ·rename_i y r' h1 h2
    cases h
    simp only[litAll]at hf
    split at hf
    ·rename_i hc
     simp only[Bool.and_eq_true,decide_eq_true_eq]at hc
     obtain⟨⟨hlen,hel⟩,hi⟩:=hc
     have hdef:((y.ev e).strip).isDef=true:=by
      have hne:n≠0∨n=0:=by omega
      cases hy:(y.ev e).strip with
      |undef=>rw[hy]at hel;simp[V.cells,V.elemAll,V.pure,V.one]at hel
      |skip=>rw[hy]at hel;simp[V.cells,V.elemAll,V.pure,V.one]at hel
      |_=>rfl
     have hv:=(VR.strip' _ _ (hE.opdT h1)).cells hdef
     have hfl:=flatten_len es hz
     have hle:i*n+n≤es.flatten.length:=by
      have:(i+1)*n≤es.length*n:=Nat.mul_le_mul_right _ hi
      rw[hfl];rw[Nat.add_mul]at this;omega
     obtain⟨ds1,e1,hd1⟩:=fill_step (place:=fun i=>some (i*n,n)) (i:=i) rfl hv hlen hd hle (r.map fun x=>(x.1,a.eval x.2))
     rw[flatten_set es i _ hz hlen hi]at hd1
     obtain⟨ds2,e2,hd2,hz2,hp2,hl2⟩:=fill_lit hE h2 hf (fun cs hcs=>by
      rcases List.mem_or_eq_of_mem_set hcs with h|h
      ·exact hz cs h
      ·rw[h];exact hlen) (fun cs hcs=>by
      rcases List.mem_or_eq_of_mem_set hcs with h|h
      ·exact hp cs h
      ·rw[h];exact hel) hd1
     exact⟨ds2,by simp only[List.map_cons];rw[e1,e2],hd2,hz2,hp2,by simpa using hl2⟩
    ·cases hf
   ·cases h
theorem lit_ok(hS:SR K s w γ)(hE:ER s.length w γ e a) {t:TypeId} {len:Nat} {ps:Array (Nat×Operand)} {ao:AOp}
 (h:(match P.underlying t with
 |some (.slice el)=>match zeroT P el,partsL P el ps.toList with
   |some z,some ps=>if 0<z.length∧len*z.length≤4096∧sizeT P el=some z.length then some (AOp.lit z len ps)else none
   |_,_=>none
 |_=>none)=some ao) {lab:Nat} {v:V} {f:Eff} (hv:aop ao lab e s=some (v,f)):
 OpOk K s w γ ((do pure (Next.value (←Instr.buildSlice t len (ps.map fun(i,x)=>(i,a.eval x)))):Sem Next).run P w) v f:=by
 have hps:(ps.map fun(i,x)=>(i,a.eval x)).toList=ps.toList.map fun x=>(x.1,a.eval x.2):=by simp
 split at h
 ·rename_i el hu
  split at h
  ·rename_i z qs hz hq
   split at h
   ·rename_i hc
    obtain⟨h0,hsmall,hsz⟩:=hc
    cases h
    simp only[aop]at hv
    split at hv
    ·rename_i hzel
     obtain⟨es,hes,hv⟩:=Option.map_eq_some_iff.1 hv
     cases hv
     obtain⟨i,zv,hi,hz',hl,_⟩:=zeroT_ok hz s.length w γ
     have hisz:i.size=z.length:=by unfold sizeT at hsz;rw[hi]at hsz;simpa using hsz
     have hzl:zv.cells.size=z.length:=by have:=hl.1;simpa using this.symm
     have hzs:(V.stripAll z).length=z.length:=(LR.strip' z _ hl).1.trans hl.1.symm
     have hrep: ∀cs∈List.replicate len (V.stripAll z),cs.length=z.length:=fun cs h=>by rw[List.eq_of_mem_replicate h];exact hzs
     obtain⟨ds0,hds0⟩: ∃ds0,ds0=((Array.range (len*i.size)).map (zv.cells[· %zv.cells.size]!)):=⟨_,rfl⟩
     have hl0:LR s.length w γ (List.replicate len (V.stripAll z)).flatten ds0.toList:=by
      have hfl:=flatten_len _ hrep
      simp only[List.length_replicate]at hfl
      refine⟨by rw[hfl,hds0,hisz];simp,fun k x u hx hu=> ?_⟩
      have hk:k<len*z.length:=by rw[←hfl];exact(List.getElem?_eq_some_iff.1 hx).1
      have hkm:k%z.length<z.length:=Nat.mod_lt _ h0
      have hkd:k/z.length<len:=by rw[Nat.div_lt_iff_lt_mul h0];exact hk
      rw[show k=k/z.length*z.length+k%z.length by rw[Nat.mul_comm,Nat.div_add_mod],flatten_get _ hrep _ _ hkm]at hx
      rw[List.getElem?_replicate,if_pos hkd]at hx
      rw[hds0,hisz]at hu
      simp only[Array.getElem?_toList,Array.getElem?_map,Array.getElem?_range,hk,if_true,Option.map_some,Option.some.injEq,hzl]at hu
      refine(LR.strip' z _ hl).2 (k%z.length) x u hx ?_
      rw[←hu]
      have:k%z.length<zv.cells.size:=by rw[hzl];exact hkm
      simp[this]
     obtain⟨ds,hf,hd,hz2,hp2,hl2⟩:=fill_lit (P:=P) hE hq (ds:=ds0) hes hrep (fun cs h=>by rw[List.eq_of_mem_replicate h];exact hzel) hl0
     have hlen:es.length=len:=by simpa using hl2
     have hrun:(Instr.buildSlice t len (ps.map fun(i,x)=>(i,a.eval x))).run P w= .ok (.slice (some ⟨w.heap.size,0,none⟩) len len) (w.alloc (.cells ds el)):=by
      by_cases hn:len=0
      ·subst hn
       have hqs:ps.toList=[]:=by
        cases hpl:ps.toList with
        |nil=>rfl
        |cons x r=>
          rw[hpl]at hq
          obtain⟨j,y⟩:=x
          unfold partsL at hq
          split at hq
          ·cases hq
           simp[litAll]at hes
          ·cases hq
       have hpe:ps= #[]:=Array.toList_inj.1 (by simpa using hqs)
       subst hpe
       simp only[List.map_nil,Instr.fill,Option.some.injEq]at hf
       have hd0:ds0= #[]:=by rw[hds0];simp
       rw[hd0]at hf
       rw[←hf]
       have hr0: ∀f:Nat→Value,(Array.range 0).map f= #[]:=fun f=>Array.eq_empty_of_size_eq_zero (by simp)
       simp[Instr.buildSlice,run_underlying hu,sizeOf,typeInfo,hi,newRow,Instr.fill,hr0]
      ·have hpos: ¬len*i.size=0:=by
        rw[hisz];intro h;rcases Nat.mul_eq_zero.1 h with h|h<;>omega
       have hsm: ¬16777216<len*i.size:=by rw[hisz];omega
       have hf':Instr.fill (fun i_1=>some (i_1*i.size,i.size)) ds0 (ps.map fun(i,x)=>(i,a.eval x)).toList=some ds:=by rw[hps,hisz];exact hf
       rw[hds0]at hf'
       have hgt: ¬len*i.size>2^24:=by omega
       simp only[Instr.buildSlice,Sem.run_bind,run_underlying hu,Result.andThen_ok,sizeOf,typeInfo,run_program,hi,Sem.run_pure,hgt,if_false,hpos,zeroValue,hz',hf',newRow,run_newObj]
       rfl
     simp only[Sem.run_bind,hrun,Result.andThen_ok,Sem.run_pure]
     have hx:=Ext.alloc s.length w γ (.cells ds el) hS.frn
     refine⟨_,_,γ, .inl rfl,?_,hS.alloc _,hx⟩
     rw[←hlen]
     refine VR.sl_mk (us:=ds.toList) hz2 hp2 (Nat.le_refl _) rfl (hd.ext hx) ?_ ?_
     ·intro j u hu
      rw[cell_of_row _ w.heap.size (0+j) ds el (0,0) (heap_alloc_new w _)]
      simpa using hu
     ·rintro k _ ⟨d',l',g',h1,h2⟩
      have:=hS.blk_lt h1 (GE.owns_blk h2)
      omega
    ·cases hv
   ·cases h
  ·cases h
 ·cases h
end
end Go.Ab

/-
  Operations: 'op_sound': what the evaluator says of an operation (but a call of a function), the model does.
-/
namespace Go.Ab
section
variable {K : KK} {P : Program} {s : Stk} {w : World} {γ : G} {e : Env} {a : Act}
theorem OpOk.of_run(hS:SR K s w γ) {x:Sem Value} {u:Value} {v:V}(h:x.run P w= .ok u w)(hv:VR s.length w γ v u):OpOk K s w γ ((do pure (Next.value (←x)):Sem Next).run P w) v none:=by
 simp only[Sem.run_bind,h,Result.andThen_ok,Sem.run_pure]
 exact OpOk.val hS hv
theorem bin_run {op:BinOp} {t:TypeId} {x y:V} {ux uy:Value} {v:V} {D:Nat}(hx:VR D w γ x ux)(hy:VR D w γ y uy)(h:Ab.bin op x y=some v)(o1 o2:Operand):
 ∃u,((do eqGuard op t o1 o2 ux uy;Go.binOp op t ux uy:Sem Value)).run P w= .ok u w∧VR D w γ v u:=by
 cases x with
 |int k p=>
   cases y with
   |int k' q=>
     cases hx;cases hy
     cases op<;>simp only[Ab.bin]at h
     all_goals try (split at h<;>first|(cases h;done)|skip)
     all_goals try (split at h<;>first|(cases h;done)|skip)
     all_goals try (cases h;done)
     all_goals
      cases h
      refine⟨_,?_,by first|exact .int _ _|exact .bool _⟩
      first
       |simp_all [eqGuard,Go.binOp,Op.intArith,Op.intDiv,Op.intBits,Op.intCmp,Op.shift];done
       | (rename_i hq; have hq' : ¬ q < 0 := by omega
          simp[eqGuard,Go.binOp,Op.shift,hq'])
   |_=>simp[Ab.bin]at h
 |_=>simp[Ab.bin]at h
theorem un_run {op:UnOp} {x:V} {ux:Value} {v:V} {D:Nat}(hx:VR D w γ x ux)(h:Ab.un op x=some v): ∃u,(Op.unary op ux).run P w= .ok u w∧VR D w γ v u:=by
 cases x with
 |int k p=>
   cases hx
   cases op<;>simp only[Ab.un,reduceCtorEq]at h
   all_goals
    cases h
    refine⟨_,?_, .int _ _⟩
    simp[Op.unary,Op.intArith,Op.intBits]
 |bool b=>
   cases hx
   cases op<;>simp only[Ab.un,reduceCtorEq]at h
   cases h
   exact⟨_,by simp[Op.unary], .bool _⟩
 |_=>cases op<;>simp[Ab.un]at h
theorem ptr_mem(hS:SR K s w γ) {d l off:Nat} {u:Value}(h:VR s.length w γ (.ptr d l off) u) {cs:List V}(hg:sget s d l=some (.cell cs)):
 ∃b c,u= .pointer (some ⟨b,off,none⟩)∧γ d l=some (.cell b)∧LR (d+1) w γ cs c∧RD w b 0 c∧d<s.length:=by
 cases h with
 |ptr _ _ _ b hd hb=>
   obtain⟨b',c,el,h1,h2,h3⟩:=hS.cell hg
   rw[hb]at h1;cases h1
   exact⟨b,c.toList,rfl,hb,h3,by simpa using RD.row h2 0,hd⟩
theorem alive_asl(hS:SR K s w γ) {d l z n o k:Nat} {u:Value}(h:VR s.length w γ (.asl d l z n o k) u)(ha:aliveE n (sget s d l)=true):
 d<s.length∧((∃base,u= .slice base 0 0∧n=0∧o=0∧k=0∧γ d l=some (.arr 0 none))∨ ∃b c,u= .slice (some ⟨b,o*z,none⟩) k (c-o)∧((∀o' k',o'+k'≤n→VR s.length w γ (.asl d l z n o' k') (.slice (some ⟨b,o'*z,none⟩) k' (c-o')))∧
  (∀i j,VR s.length w γ (.eptr d l n i j) (.pointer (some ⟨b,i*z+j,none⟩)))∧((∃z' es,sget s d l=some (.arr z' es))→γ d l=some (.arr n (some (b,z,c)))))∧o+k≤n∧n≤c):=by
 cases h with
 |asl _ _ _ _ _ _ b c hd hb hle hk=>exact⟨hd, .inr ⟨b,c,rfl,⟨fun o' k' hk'=> .asl _ _ _ _ _ _ b c hd hb hk' hk,fun i j=> .eptr _ _ _ _ _ b z c hd hb,fun _=>hb⟩,hle,hk⟩⟩
 |aslh _ _ _ _ _ _ lo N f hd hb hn hle hk=>exact⟨hd, .inr ⟨(f n).1,(f n).2,rfl,⟨fun o' k' hk'=> .aslh _ _ _ _ _ _ lo N f hd hb hn hk' hk,fun i j=> .eptrh _ _ _ _ _ z lo N f hd hb hn,fun⟨z',es,hg⟩=>by
  obtain⟨blk',h1,_⟩:=hS.ent d l _ hg
  rw[hb]at h1;cases h1⟩,hle,hk⟩⟩
 |aslho _ _ _ _ _ _ lo N sz' f _ _ _ hd hb hn=>
   cases hg:sget s d l with
   |none=>rw[hg]at ha;cases ha
   |some x=>
     rw[hg]at ha
     cases x with
     |arr z' es=>
       obtain⟨blk',h1,_⟩:=hS.ent d l _ hg
       rw[hb]at h1;cases h1
     |harr lo' z' es=>
       obtain⟨f',h1,_⟩:=hS.ent d l _ hg
       rw[hb]at h1;cases h1
       simp[aliveE]at ha;omega
     |_=>cases ha
 |aslnil _ _ _ base hd hb=>exact⟨hd, .inl ⟨base,rfl,rfl,rfl,rfl,hb⟩⟩
 |aslold _ _ _ _ _ _ N blk _ _ _ hd hb hn=>
   cases hg:sget s d l with
   |none=>rw[hg]at ha;cases ha
   |some x=>
     rw[hg]at ha
     cases x with
     |arr z' es=>
       obtain⟨blk',h1,_⟩:=hS.ent d l _ hg
       rw[hb]at h1;cases h1
       simp[aliveE]at ha;omega
     |harr lo' z' es=>
       obtain⟨f',h1,_⟩:=hS.ent d l _ hg
       rw[hb]at h1;cases h1
     |_=>cases ha
theorem alive_eptr(hS:SR K s w γ) {d l n i j:Nat} {u:Value}(h:VR s.length w γ (.eptr d l n i j) u)(ha:aliveE n (sget s d l)=true):
 ∃b z,u= .pointer (some ⟨b,i*z+j,none⟩)∧(∀j',VR s.length w γ (.eptr d l n i j') (.pointer (some ⟨b,i*z+j',none⟩)))∧d<s.length:=by
 cases h with
 |eptr _ _ _ _ _ b z c hd hb=>exact⟨b,z,rfl,fun j'=> .eptr _ _ _ _ _ b z c hd hb,hd⟩
 |eptrh _ _ _ _ _ z lo N f hd hb hn=>exact⟨(f n).1,z,rfl,fun j'=> .eptrh _ _ _ _ _ z lo N f hd hb hn,hd⟩
 |eptrho _ _ _ _ _ lo N sz' f p hd hb hn=>
   cases hg:sget s d l with
   |none=>rw[hg]at ha;cases ha
   |some x=>
     rw[hg]at ha
     cases x with
     |arr z' es=>
       obtain⟨blk',h1,_⟩:=hS.ent d l _ hg
       rw[hb]at h1;cases h1
     |harr lo' z' es=>
       obtain⟨f',h1,_⟩:=hS.ent d l _ hg
       rw[hb]at h1;cases h1
       simp[aliveE]at ha;omega
     |_=>cases ha
 |eptrold _ _ _ _ _ N blk _ hd hb hn=>
   cases hg:sget s d l with
   |none=>rw[hg]at ha;cases ha
   |some x=>
     rw[hg]at ha
     cases x with
     |arr z' es=>
       obtain⟨blk',h1,_⟩:=hS.ent d l _ hg
       rw[hb]at h1;cases h1
       simp[aliveE]at ha;omega
     |harr lo' z' es=>
       obtain⟨f',h1,_⟩:=hS.ent d l _ hg
       rw[hb]at h1;cases h1
     |_=>cases ha
theorem arr_mem(hS:SR K s w γ) {d l q i j:Nat} {u:Value}(h:VR s.length w γ (.eptr d l q i j) u) {z:Nat} {es:List (List V)}(hg:sget s d l=some (.arr z es))(hq:q=es.length) {cs:List V}(hi:es[i]? =some cs):
 ∃b us,u= .pointer (some ⟨b,i*z+j,none⟩)∧LR (d+1) w γ cs us∧RD w b (i*z) us∧d<s.length:=by
 cases h with
 |eptrh _ _ _ _ _ z lo N f hd hb hn=>
   obtain⟨blk,h1,h0,h2⟩:=hS.ent d l _ hg
   rw[hb]at h1;cases h1
 |eptrho _ _ _ _ _ lo N sz' f p hd hb hn=>
   obtain⟨blk,h1,h0,h2⟩:=hS.ent d l _ hg
   rw[hb]at h1;cases h1
 |eptrold _ _ _ _ _ N blk p hd hb hn2=>
   obtain⟨blk,h1,h0,h2⟩:=hS.ent d l _ hg
   rw[hb]at h1;cases h1
   omega
 |eptr _ _ _ _ _ b sz k hd hb=>
   obtain⟨blk,h1,h0,h2⟩:=hS.ent d l _ hg
   rw[hb,hq]at h1;cases h1
   obtain⟨rfl,c,e,h3,h4,h5,h6,h7,h8⟩:=h2
   have hcs:cs.length=sz:=h0 cs (List.mem_of_getElem? hi)
   have hlt:i<es.length:=(List.getElem?_eq_some_iff.1 hi).1
   have hfit:i*sz+sz≤c.size:=by
    rw[h5]
    calc i*sz+sz=(i+1)*sz:=by rw[Nat.add_mul];omega
     _≤k*sz:=Nat.mul_le_mul_right _ (by omega)
   refine⟨b,(c.toList.drop (i*sz)).take sz,rfl,⟨by simp;omega,fun j v u hv hu=> ?_⟩,?_,hd⟩
   ·rw[List.getElem?_take]at hu
    split at hu
    ·rw[List.getElem?_drop]at hu
     exact h8 i cs j v u hi hv (by simpa using hu)
    ·cases hu
   ·intro j u hu
    rw[List.getElem?_take]at hu
    split at hu
    ·exact RD.row h3 (i*sz) j u hu
    ·cases hu
theorem harr_mem(hS:SR K s w γ) {d l q i j:Nat} {u:Value}(h:VR s.length w γ (.eptr d l q i j) u) {lo z:Nat} {es:List (List V)}(hg:sget s d l=some (.harr lo z es))(hq:lo≤q∧q≤es.length∧i<q) {cs:List V}(hi:es[i]? =some cs):
 ∃b us,u= .pointer (some ⟨b,i*z+j,none⟩)∧LR (d+1) w γ cs us∧RD w b (i*z) us∧d<s.length:=by
 obtain⟨f,h1,h0,hz,hlo,hc,h2⟩:=hS.ent d l _ hg
 cases h with
 |eptr _ _ _ _ _ b sz k hd hb=>rw[hb]at h1;cases h1
 |eptrold _ _ _ _ _ N blk p hd hb hn2=>rw[hb]at h1;cases h1
 |eptrho _ _ _ _ _ lo N sz' f p hd hb hn=>rw[hb]at h1;cases h1;omega
 |eptrh _ _ _ _ _ z' lo' N f' hd hb hn=>
   rw[hb]at h1;cases h1
   obtain⟨_,_,h8⟩:=h2 q hq.1 hq.2.1
   have hcs:=(h0 cs (List.mem_of_getElem? hi)).1
   have hex: ∀j (hj:j<cs.length),∃u,w.cell? ⟨(f q).1,i*z+j,none⟩=some u∧VR (d+1) w γ cs[j] u:=fun j hj=>h8 i cs j cs[j] hq.2.2 hi (List.getElem?_eq_getElem hj)
   refine⟨(f q).1,(List.finRange cs.length).map fun j=>Classical.choose (hex j.1 j.2),rfl,⟨by simp,fun j v u hv hu=> ?_⟩,fun j u hu=> ?_,hd⟩
   ·have hj:j<cs.length:=(List.getElem?_eq_some_iff.1 hv).1
    rw[List.getElem?_eq_getElem hj]at hv;cases hv
    rw[List.getElem?_eq_getElem (by simpa using hj)]at hu
    simp at hu
    rw[←hu]
    exact(Classical.choose_spec (hex j hj)).2
   ·have hj:j<cs.length:=by
     have:=(List.getElem?_eq_some_iff.1 hu).1
     simpa using this
    rw[List.getElem?_eq_getElem (by simpa using hj)]at hu
    simp at hu
    rw[←hu]
    exact(Classical.choose_spec (hex j hj)).1
theorem load_sound(hS:SR K s w γ) {t:TypeId} {n:Option Nat}(hn:nT P t=some n) {x:V} {ux:Value} {v:V} {f:Eff}
 (h:(match x with
 | .ep cs=>(part n cs 0).map fun v=>(v,(none:Eff))
 | .ptr d l off=>match sget s d l with
   |some (.cell cs)=>(part n cs off).map fun v=>(v,none)
   |_=>none
 | .eptr d l q i j=>match sget s d l with
   |some (.arr _ es)=>if q=es.length then(match es[i]? with
     |some cs=>(part n cs j).map fun v=>(v,none)
     |none=>none)else none
   |some (.harr lo _ es)=>if lo≤q∧q≤es.length∧i<q then(match es[i]? with
     |some cs=>(part n cs j).map fun v=>(v,none)
     |none=>none)else none
   |_=>none
 |_=>none)=some (v,f)) (hx:VR s.length w γ x ux):OpOk K s w γ ((do pure (Next.value (←Instr.loadAt t ux)):Sem Next).run P w) v f:=by
 cases x with
 |ep cs=>
   obtain⟨v',hp,h⟩:=Option.map_eq_some_iff.1 h
   cases h
   obtain⟨b,off,us,rfl,hl,hr,_⟩:=hx.ep_inv
   obtain⟨u,h1,h2⟩:=load_ok hn hl hr hp
   exact OpOk.of_run hS (by simpa [Instr.loadAt,Instr.sureAddr]using h1) h2
 |ptr d l off=>
   dsimp only at h
   split at h
   ·rename_i cs hg
    obtain⟨v',hp,h⟩:=Option.map_eq_some_iff.1 h
    cases h
    obtain⟨b,c,rfl,hb,hl,hr,hd⟩:=ptr_mem hS hx hg
    obtain⟨u,h1,h2⟩:=load_ok hn ((show LR s.length w γ cs c from hl.mono (by omega)).drop off) (by simpa using hr.drop off) (part_drop hp)
    exact OpOk.of_run hS (by simpa [Instr.loadAt,Instr.sureAddr]using h1) h2
   ·cases h
 |eptr d l q i j=>
   dsimp only at h
   split at h
   ·rename_i z es hg
    split at h
    ·rename_i hq
     split at h
     ·rename_i cs hi
      obtain⟨v',hp,h⟩:=Option.map_eq_some_iff.1 h
      cases h
      obtain⟨b,us,rfl,hl,hr,hd⟩:=arr_mem hS hx hg hq hi
      obtain⟨u,h1,h2⟩:=load_ok hn ((show LR s.length w γ cs us from hl.mono (by omega)).drop j) (hr.drop j) (part_drop hp)
      exact OpOk.of_run hS (by simpa [Instr.loadAt,Instr.sureAddr]using h1) h2
     ·cases h
    ·cases h
   ·rename_i lo z es hg
    split at h
    ·rename_i hq
     split at h
     ·rename_i cs hi
      obtain⟨v',hp,h⟩:=Option.map_eq_some_iff.1 h
      cases h
      obtain⟨b,us,rfl,hl,hr,hd⟩:=harr_mem hS hx hg hq hi
      obtain⟨u,h1,h2⟩:=load_ok hn ((show LR s.length w γ cs us from hl.mono (by omega)).drop j) (hr.drop j) (part_drop hp)
      exact OpOk.of_run hS (by simpa [Instr.loadAt,Instr.sureAddr]using h1) h2
     ·cases h
    ·cases h
   ·cases h
 |_=>cases h
theorem splice_get {α:Type}(l m:List α)(off:Nat)(h:off+m.length≤l.length)(x:Nat):
 (l.take off ++m ++l.drop (off+m.length))[x]? =if off≤x∧x<off+m.length then m[x-off]? else l[x]? :=by
 have ht:(l.take off).length=off:=by simp;omega
 by_cases h1:x<off
 ·rw[if_neg (by omega),List.append_assoc,List.getElem?_append_left (by omega),List.getElem?_take,if_pos h1]
 ·rw[List.append_assoc,List.getElem?_append_right (by omega),ht]
  by_cases h2:x<off+m.length
  ·rw[if_pos ⟨by omega,h2⟩,List.getElem?_append_left (by omega)]
  ·rw[if_neg (by omega),List.getElem?_append_right (by omega),List.getElem?_drop]
   congr 1;omega
theorem store_arr_ok(hS:SR K s w γ) {d l:Nat} {z:Nat} {es:List (List V)}(hg:sget s d l=some (.arr z es)) {i j b sz k:Nat}(hb:γ d l=some (.arr es.length (some (b,sz,k)))) {cs:List V}(hi:es[i]? =some cs)
 {vs:List V} {us:List Value} (hl:LR (d+1) w γ vs us) (ho:V.oneAll vs=true) (hle:j+vs.length≤cs.length):
 ∃w',(storeCells ⟨b,i*sz+j,none⟩ us).run P w= .ok () w'∧SR K (sput s d l (.arr z (es.set i (setAll cs j vs)))) w' γ∧Ext s.length w γ w' γ:=by
 obtain⟨blk,h1,h0,h2⟩:=hS.ent d l _ hg
 rw[hb]at h1;cases h1
 obtain⟨rfl,c,e,h3,h4,h5,h6,h7,h8⟩:=h2
 have hlen:us.length=vs.length:=hl.1.symm
 have hcs:cs.length=sz:=h0 cs (List.mem_of_getElem? hi)
 have hlt:i<es.length:=(List.getElem?_eq_some_iff.1 hi).1
 have hfit:i*sz+sz≤c.size:=by
  rw[h5]
  calc i*sz+sz=(i+1)*sz:=by rw[Nat.add_mul];omega
   _≤k*sz:=Nat.mul_le_mul_right _ (by omega)
 have hcl:c.toList.length=c.size:=Array.length_toList
 have hrun:=run_storeCells_at P b (i*sz+j) e us 0 c w h3 (by omega) (hl.one (oneAll_mem ho))
 simp only[Nat.add_zero]at hrun
 have hown: ∀o,Own γ b o:=fun o=>⟨d,l,_,hb,rfl⟩
 obtain⟨row,hrow⟩: ∃row,row=(c.toList.take (i*sz+j) ++us ++c.toList.drop (i*sz+j+us.length)).toArray:=⟨_,rfl⟩
 rw[←hrow]at hrun
 have hx:Ext s.length w γ (w.setRow b row) γ:=by
  have:=Ext.setRow s.length (c':=row) hb rfl (g':= .arr es.length (some (b,sz,k))) (fun _ _ h=>h) h3 (fun o u hno _=>absurd (hown o) hno) ⟨0,rfl⟩ (hS.notfrn hb rfl) (fun _ h=>by cases h) (fun _ h=>by cases h) (fun _ _ h=>by cases h) (fun n blk h=>⟨n,blk,h, .inl ⟨rfl,rfl⟩⟩)
  rwa [set_self hb]at this
 have hget: ∀x,row[x]? =if i*sz+j≤x∧x<i*sz+j+us.length then us[x-(i*sz+j)]? else c[x]? :=by
  intro x
  rw[hrow,List.getElem?_toArray,splice_get _ _ _ (by omega)]
  simp
 have hrs:row.size=c.size:=by rw[hrow];simp;omega
 refine⟨_,hrun,hS.step (g:= .arr es.length (some (b,sz,k))) (hS.lt hb) hx (set_self hb).symm ⟨some (b,sz,k),by rw[List.length_set];exact hb,?_,rfl,row,e,setRow_heap w b c _ e _ h3,by simpa using h4,by rw[hrs];exact h5,h6,h7,?_⟩ ?_ ?_,hx⟩
 ·intro x hx'
  rcases List.mem_or_eq_of_mem_set hx' with h|h
  ·exact h0 x h
  ·subst h;rw[setAll_eq vs cs j hle];simp;omega
 ·intro i' cs' j' v u k1 k2 k3
  rw[hget]at k3
  rw[List.getElem?_set]at k1
  by_cases hii:i=i'
  ·subst hii
   rw[if_pos rfl,if_pos hlt]at k1
   cases k1
   rw[setAll_eq vs cs j hle,splice_get _ _ _ hle]at k2
   by_cases hj:j≤j'∧j'<j+vs.length
   ·rw[if_pos hj]at k2
    rw[if_pos (by omega),show i*sz+j'-(i*sz+j)=j'-j by omega]at k3
    exact(hl.2 _ v u k2 k3).ext (hx.mono (hS.lt hb))
   ·rw[if_neg hj]at k2
    rw[if_neg (by omega)]at k3
    exact(h8 i cs j' v u hi k2 k3).ext (hx.mono (hS.lt hb))
  ·rw[if_neg hii]at k1
   have hj':j'<sz:=by rw[←h0 cs' (List.mem_of_getElem? k1)];exact(List.getElem?_eq_some_iff.1 k2).1
   have hne: ¬(i*sz+j≤i'*sz+j'∧i'*sz+j'<i*sz+j+us.length):=by
    rcases Nat.lt_or_gt_of_ne hii with h|h
    ·have:=Nat.mul_le_mul_right sz (show i+1≤i' by omega)
     rw[Nat.add_mul]at this;omega
    ·have:=Nat.mul_le_mul_right sz (show i'+1≤i by omega)
     rw[Nat.add_mul]at this;omega
   rw[if_neg hne]at k3
   exact(h8 i' cs' j' v u k1 k2 k3).ext (hx.mono (hS.lt hb))
 ·intro d' l' g' b1 hne hg' hb1
  refine setRow_other w b b1 _ ?_
  rintro rfl
  exact hne (hS.inj d' l' g' d l _ b1 hg' hb hb1 rfl)
 ·intro b1 hb1 d' l' g' hne hg' hb'
  simp[GE.blk]at hb1;subst hb1
  exact hne (hS.inj d' l' g' d l _ b hg' hb hb' rfl)
theorem store_run_ok(hS:SR K s w γ) {d l:Nat} {z:Nat} {es:List (List V)}(hg:sget s d l=some (.arr z es)) {b sz k:Nat}(hb:γ d l=some (.arr es.length (some (b,sz,k)))) {o:Nat}
 {fs:List (List V)} {us:List Value} (hfs: ∀cs∈fs,cs.length=sz) (hl:LR (d+1) w γ fs.flatten us) (ho:V.oneAll fs.flatten=true) (hle:o+fs.length≤es.length):
 ∃w',(storeCells ⟨b,o*sz,none⟩ us).run P w= .ok () w'∧SR K (sput s d l (.arr z (es.take o ++fs ++es.drop (o+fs.length)))) w' γ∧Ext s.length w γ w' γ:=by
 obtain⟨blk,h1,h0,h2⟩:=hS.ent d l _ hg
 rw[hb]at h1;cases h1
 obtain⟨rfl,c,e,h3,h4,h5,h6,h7,h8⟩:=h2
 have hfl:=flatten_len fs hfs
 have hlen:us.length=fs.length*sz:=by rw[←hl.1,hfl]
 have hfit:o*sz+fs.length*sz≤c.size:=by
  rw[h5,←Nat.add_mul];exact Nat.mul_le_mul_right _ (by omega)
 have hcl:c.toList.length=c.size:=Array.length_toList
 have hrun:=run_storeCells_at P b (o*sz) e us 0 c w h3 (by omega) (hl.one (oneAll_mem ho))
 simp only[Nat.add_zero]at hrun
 have hown: ∀o,Own γ b o:=fun o=>⟨d,l,_,hb,rfl⟩
 obtain⟨row,hrow⟩: ∃row,row=(c.toList.take (o*sz) ++us ++c.toList.drop (o*sz+us.length)).toArray:=⟨_,rfl⟩
 rw[←hrow]at hrun
 have hx:Ext s.length w γ (w.setRow b row) γ:=by
  have:=Ext.setRow s.length (c':=row) hb rfl (g':= .arr es.length (some (b,sz,k))) (fun _ _ h=>h) h3 (fun o u hno _=>absurd (hown o) hno) ⟨0,rfl⟩ (hS.notfrn hb rfl) (fun _ h=>by cases h) (fun _ h=>by cases h) (fun _ _ h=>by cases h) (fun n blk h=>⟨n,blk,h, .inl ⟨rfl,rfl⟩⟩)
  rwa [set_self hb]at this
 have hget: ∀x,row[x]? =if o*sz≤x∧x<o*sz+us.length then us[x-o*sz]? else c[x]? :=by
  intro x
  rw[hrow,List.getElem?_toArray,splice_get _ _ _ (by omega)]
  simp
 have hrs:row.size=c.size:=by rw[hrow];simp;omega
 have hnl:(es.take o ++fs ++es.drop (o+fs.length)).length=es.length:=by simp;omega
 have hng: ∀x:Nat,(es.take o ++fs ++es.drop (o+fs.length))[x]? =if o≤x∧x<o+fs.length then fs[x-o]? else es[x]? :=fun x=>splice_get es fs o (by omega) x
 refine⟨_,hrun,hS.step (g:= .arr es.length (some (b,sz,k))) (hS.lt hb) hx (set_self hb).symm ⟨some (b,sz,k),by rw[hnl];exact hb,?_,rfl,row,e,setRow_heap w b c _ e _ h3,by rw[hnl];exact h4,by rw[hrs];exact h5,h6,h7,?_⟩ ?_ ?_,hx⟩
 ·intro x hx'
  rcases List.mem_append.1 hx' with h|h
  ·rcases List.mem_append.1 h with h|h
   ·exact h0 x (List.mem_of_mem_take h)
   ·exact hfs x h
  ·exact h0 x (List.mem_of_mem_drop h)
 ·intro i' cs' j' v u k1 k2 k3
  rw[hget]at k3
  rw[hng]at k1
  by_cases hii:o≤i'∧i'<o+fs.length
  ·rw[if_pos hii]at k1
   have hj':j'<sz:=by rw[←hfs cs' (List.mem_of_getElem? k1)];exact(List.getElem?_eq_some_iff.1 k2).1
   have e1:i'*sz=o*sz+(i'-o)*sz:=by rw[←Nat.add_mul];congr 1;omega
   have e2:(i'-o)*sz+sz≤fs.length*sz:=by
    calc (i'-o)*sz+sz=(i'-o+1)*sz:=by rw[Nat.add_mul (i'-o)];omega
     _≤fs.length*sz:=Nat.mul_le_mul_right _ (by omega)
   rw[if_pos (by omega),show i'*sz+j'-o*sz=(i'-o)*sz+j' by omega]at k3
   have hf:fs.flatten[(i'-o)*sz+j']? =some v:=by rw[flatten_get fs hfs _ _ hj',k1];exact k2
   exact(hl.2 _ v u hf k3).ext (hx.mono (hS.lt hb))
  ·rw[if_neg hii]at k1
   have hj':j'<sz:=by rw[←h0 cs' (List.mem_of_getElem? k1)];exact(List.getElem?_eq_some_iff.1 k2).1
   have hne: ¬(o*sz≤i'*sz+j'∧i'*sz+j'<o*sz+us.length):=by
    rcases Nat.lt_or_ge i' o with h|h
    ·have:=Nat.mul_le_mul_right sz (show i'+1≤o by omega)
     rw[Nat.add_mul]at this;omega
    ·have:=Nat.mul_le_mul_right sz (show o+fs.length≤i' by omega)
     rw[Nat.add_mul]at this;omega
   rw[if_neg hne]at k3
   exact(h8 i' cs' j' v u k1 k2 k3).ext (hx.mono (hS.lt hb))
 ·intro d' l' g' b1 hne hg' hb1
  refine setRow_other w b b1 _ ?_
  rintro rfl
  exact hne (hS.inj d' l' g' d l _ b1 hg' hb hb1 rfl)
 ·intro b1 hb1 d' l' g' hne hg' hb'
  simp[GE.blk]at hb1;subst hb1
  exact hne (hS.inj d' l' g' d l _ b hg' hb hb' rfl)
theorem store_sound(hS:SR K s w γ)(hs:s≠[]) {t:TypeId} {n:Nat}(hn:sizeT P t=some n) {x y:V} {ux uy:Value} {v:V} {f:Eff}
 (h:(match x with
 | .ptr d l off=>match sget s d l with
   |some (.cell cs)=>
     if d=dep s then
      (if y.cells.length=n∧off+n≤cs.length∧V.oneAll y.cells then some (V.undef,some (d,l,Entry.cell (setAll cs off y.cells)))else none)
     else match y.down d with
      |some v=>if v.cells.length=n∧off+n≤cs.length∧V.oneAll v.cells then some (.undef,some (d,l, .cell (setAll cs off v.cells)))else none
      |none=>none
   |_=>none
 | .eptr d l q i j=>match sget s d l with
   |some (.arr z es)=>if q=es.length then(match es[i]? with
     |some cs=>match (if d=dep s then some y else y.down d)with
       |some v=>if v.cells.length=n∧j+n≤cs.length∧V.oneAll v.cells then some (.undef,some (d,l, .arr z (es.set i (setAll cs j v.cells))))else none
       |none=>none
     |none=>none)else none
   |_=>none
 |_=>none)=some (v,f)) (hx:VR s.length w γ x ux) (hy:VR s.length w γ y uy):OpOk K s w γ ((do Instr.storeAt t ux uy;pure Next.skip:Sem Next).run P w) v f:=by
 have isdef: ∀(y':V),V.oneAll y'.cells=true→y'.isDef=true:=by
  intro y' ho
  cases y' with
  |undef=>simp[V.cells,V.oneAll,V.one]at ho
  |skip=>simp[V.cells,V.oneAll,V.one]at ho
  |_=>rfl
 cases x with
 |ptr d l off=>
   dsimp only at h
   split at h
   ·rename_i cs hg
    obtain⟨b,c,rfl,hb,hl,hr,hd⟩:=ptr_mem hS hx hg
    have key: ∀(y':V),VR (d+1) w γ y' uy→y'.cells.length=n→off+n≤cs.length→V.oneAll y'.cells=true→
     OpOk K s w γ ((do Instr.storeAt t (.pointer (some ⟨b,off,none⟩)) uy;pure Next.skip:Sem Next).run P w) .undef (some (d,l, .cell (setAll cs off y'.cells))):=by
     intro y' hy' hlen hle ho
     have hl':=hy'.cells (isdef y' ho)
     obtain⟨w',h1,h2,h3⟩:=store_ok (P:=P) hS hg hb (off:=off) hl' ho (by omega)
     refine⟨undef,w',γ, .inr ⟨?_,rfl⟩, .undef _,h2,h3⟩
     have hsz:uy.cells.size=n:=by rw[←hlen,hl'.1];simp
     simp[Instr.storeAt,Instr.sureAddr,storeVar,run_sizeOf' hn,hsz,h1]
    split at h
    ·rename_i hd'
     split at h
     ·rename_i hc
      cases h
      exact key y (by rw[hd',dep_succ hs];exact hy) hc.1 hc.2.1 hc.2.2
     ·cases h
    ·split at h
     ·rename_i y' hy'
      split at h
      ·rename_i hc
       cases h
       exact key y' (VR.down' y y' uy hy hy') hc.1 hc.2.1 hc.2.2
      ·cases h
     ·cases h
   ·cases h
 |eptr d l q i j=>
   dsimp only at h
   split at h
   ·rename_i z es hg
    by_cases hq:q=es.length
    case neg=>rw[if_neg hq]at h;cases h
    rw[if_pos hq]at h
    split at h
    ·rename_i cs hi
     split at h
     ·rename_i y' hy'
      split at h
      ·rename_i hc
       cases h
       have hyd:VR (d+1) w γ y' uy:=by
        split at hy'
        ·rename_i hd';cases hy';rw[hd',dep_succ hs];exact hy
        ·exact VR.down' y y' uy hy hy'
       have hl':=hyd.cells (isdef y' hc.2.2)
       cases hx with
       |eptrold _ _ _ _ _ N blk p hd hb hn2=>
         obtain⟨blk,h1,h0,h2⟩:=hS.ent d l _ hg
         rw[hb]at h1;cases h1
         omega
       |eptrh _ _ _ _ _ z lo N f hd hb hn=>
         obtain⟨blk,h1,h0,h2⟩:=hS.ent d l _ hg
         rw[hb]at h1;cases h1
       |eptrho _ _ _ _ _ lo N sz' f p hd hb hn=>
         obtain⟨blk,h1,h0,h2⟩:=hS.ent d l _ hg
         rw[hb]at h1;cases h1
       |eptr _ _ _ _ _ b sz k hd hb=>
         rw[hq]at hb
         obtain⟨w',h1,h2,h3⟩:=store_arr_ok (P:=P) hS hg hb hi (j:=j) hl' hc.2.2 (by omega)
         refine⟨undef,w',γ, .inr ⟨?_,rfl⟩, .undef _,h2,h3⟩
         have hsz:uy.cells.size=n:=by rw[←hc.1,hl'.1];simp
         simp[Instr.storeAt,Instr.sureAddr,storeVar,run_sizeOf' hn,hsz,h1]
      ·cases h
     ·cases h
    ·cases h
   ·cases h
 |_=>cases h
theorem idx_inv {D:Nat} {v:V} {u:Value}(h:VR D w γ v u) {n:Int}(hn:v.idx=some n): ∃k,u= .int k n:=by
 cases v<;>simp[V.idx]at hn
 subst hn
 cases h
 exact⟨_,rfl⟩
theorem elem_pure: ∀ {cs:List V},V.elemAll cs=true→V.pureAll cs=true
 |[],_=>rfl
 |v::r,h=>by simp[V.elemAll]at h;simp[V.pureAll,h.1.1,elem_pure h.2]
theorem pure_drop: ∀ {cs:List V} (n:Nat),V.pureAll cs=true→V.pureAll (cs.drop n)=true
 |cs,0,h=>h
 |[],n+1,_=>rfl
 |v::r,n+1,h=>by simp[V.pureAll]at h;exact pure_drop n h.2
theorem sl_at {D:Nat} {c:Cap} {sz:Nat} {es:List (List V)} {u:Value}(h:VR D w γ (.sl c sz es) u) {n:Nat} {cs:List V}(hn:es[n]? =some cs):
 ∃b off cap,u= .slice (some ⟨b,off,none⟩) es.length cap∧n<es.length∧VR D w γ (.ep cs) (.pointer (some ⟨b,off+n*sz,none⟩)):=by
 have hlt:n<es.length:=(List.getElem?_eq_some_iff.1 hn).1
 cases h with
 |slnil=>simp at hn
 |sl0=>simp at hn
 |sl _ _ _ b off cap hsz hp hle hcap hc hno h=>
   refine⟨b,off,cap,rfl,hlt, .ep cs b (off+n*sz) (elem_pure (hp cs (List.mem_of_getElem? hn))) (fun j v hv=> ?_) (fun j v hv=> ?_) (fun j v u hv hu=> ?_)⟩
   ·obtain⟨u,hu⟩:=hc n cs j v hn hv
    exact⟨u,by rw[Nat.add_assoc];exact hu⟩
   ·rw[Nat.add_assoc];exact hno n cs j v hn hv
   ·rw[Nat.add_assoc]at hu;exact h n cs j v u hn hv hu
theorem ep_drop {D:Nat} {cs:List V} {b off:Nat}(h:VR D w γ (.ep cs) (.pointer (some ⟨b,off,none⟩)))(n:Nat):VR D w γ (.ep (cs.drop n)) (.pointer (some ⟨b,off+n,none⟩)):=by
 obtain⟨b',off',us,e,hl,hr,hno⟩:=h.ep_inv
 cases e
 refine VR.ep_mk (pure_drop n h.ep_pure) (hl.drop n) (hr.drop n) (fun i hi=> ?_)
 rw[Nat.add_assoc]
 exact hno _ (by simp at hi;omega)
def OR(D:Nat)(w:World)(γ:G)(v:Option V)(u:Option Value):Prop:=(v=none∧u=none)∨ ∃x y,v=some x∧u=some y∧VR D w γ x y
theorem slice_sound(hS:SR K s w γ) {t el:TypeId} {z0:Nat}(ht:P.underlying t=some (.slice el))(hi:sizeT P el=some z0) {c:Cap} {z:Nat} {es:List (List V)} {ux:Value}(hx:VR s.length w γ (.sl c z es) ux)
 {lo hi' mx:Option V} {ulo uhi umx:Option Value} (hlo:OR s.length w γ lo ulo) (hhi:OR s.length w γ hi' uhi) (hmx:OR s.length w γ mx umx) {h l:Nat} {c':Cap}
 (hz:z=z0∨es=[]) (h1:hiOf hi' es.length=some h) (h2:mxOf c mx h es.length=some c') (h3:loOf lo h=some l) (hmh:mx.isSome=true→hi'.isSome=true):
 OpOk K s w γ ((do pure (Next.value (←Instr.sliceAt t ux ulo uhi umx)):Sem Next).run P w) (.sl c' z ((es.take h).drop l)) none:=by
 have bh:h≤es.length∧((hi'=none∧uhi=none∧h=es.length)∨ ∃k,uhi=some (.int k h)):=by
  rcases hhi with ⟨rfl,rfl⟩|⟨x,y,rfl,rfl,hv⟩
  ·simp[hiOf]at h1;subst h1;exact⟨Nat.le_refl _, .inl ⟨rfl,rfl,rfl⟩⟩
  ·simp only[hiOf]at h1
   split at h1
   ·rename_i n hn
    split at h1
    ·rename_i hc
     cases h1
     obtain⟨k,rfl⟩:=idx_inv hv hn
     exact⟨by omega, .inr ⟨k,by rw[Int.toNat_of_nonneg hc.1]⟩⟩
    ·cases h1
   ·cases h1
 have bl:l≤h∧((ulo=none∧l=0)∨ ∃k,ulo=some (.int k l)):=by
  rcases hlo with ⟨rfl,rfl⟩|⟨x,y,rfl,rfl,hv⟩
  ·simp[loOf]at h3;subst h3;exact⟨Nat.zero_le _, .inl ⟨rfl,rfl⟩⟩
  ·simp only[loOf]at h3
   split at h3
   ·rename_i n hn
    split at h3
    ·rename_i hc
     cases h3
     obtain⟨k,rfl⟩:=idx_inv hv hn
     exact⟨by omega, .inr ⟨k,by rw[Int.toNat_of_nonneg hc.1]⟩⟩
    ·cases h3
   ·cases h3
 have bm:(mx=none∧umx=none∧c'=(if h=es.length∧c= .full then Cap.full else .no))∨(∃k,umx=some (.int k h))∧c'= .full∧mx.isSome=true:=by
  rcases hmx with ⟨rfl,rfl⟩|⟨x,y,rfl,rfl,hv⟩
  ·simp[mxOf]at h2;exact .inl ⟨rfl,rfl,h2.symm⟩
  ·simp only[mxOf]at h2
   split at h2
   ·rename_i n hn
    split at h2
    ·rename_i hc
     cases h2
     obtain⟨k,rfl⟩:=idx_inv hv hn
     exact .inr ⟨⟨k,by rw[hc]⟩,rfl,rfl⟩
    ·cases h2
   ·cases h2
 have sh: ∃base cap,ux= .slice base es.length cap∧es.length≤cap∧(c= .full→cap=es.length)∧
  ∀m,(m=cap∨m=h)→capOk s.length γ c' z none (h-l) (m-l)→(c'= .no∨c'= .full)→
   VR s.length w γ (.sl c' z ((es.take h).drop l)) (.slice (if m=l then base else base.map (·.add (l*z0))) (h-l) (m-l)):=by
  rcases hx.sl_inv with ⟨base,cap,rfl,rfl,hc,hb0⟩|⟨b,off,cap,us,rfl,hz1,hz2,hle,hcap,hl,hr,hno⟩
  ·refine⟨base,cap,rfl,Nat.zero_le _,fun e=>by subst e;exact hc,fun m hm hc' hcc=> ?_⟩
   have hh:h=0:=by simpa using bh.1
   have hl0:l=0:=by omega
   subst hh;subst hl0
   have hcap': ∀bb,capOk s.length γ c' z bb 0 m:=by
    intro bb
    rcases hcc with rfl|rfl
    ·trivial
    ·have:m-0=0-0:=hc'
     show m=0
     omega
   have hbase:(if m=0 then base else base.map (·.add (0*z0)))=base:=by
    split
    ·rfl
    ·cases base<;>simp[Addr.add]
   rw[hbase]
   refine VR.sl_empty (by simpa using hcap' base) (fun e=> ?_)
   have:=hb0 e
   omega
  ·refine⟨some ⟨b,off,none⟩,cap,rfl,hle,fun e=>by subst e;exact hcap,fun m hm hc' hcc=> ?_⟩
   have hlen:((es.take h).drop l).length=h-l:=by simp;omega
   have hmem: ∀cs∈(es.take h).drop l,cs∈es:=fun cs hcs=>List.mem_of_mem_take (List.mem_of_mem_drop hcs)
   have hmh':h≤m:=by rcases hm with rfl|rfl<;>omega
   have capc: ∀bb,capOk s.length γ c' z (some bb) ((es.take h).drop l).length (m-l):=by
    intro bb
    rw[hlen]
    rcases hcc with rfl|rfl
    ·trivial
    ·exact hc'
   rw[←hlen]
   by_cases hml:m=l
   ·rw[if_pos hml]
    have he:(es.take h).drop l=[]:=List.drop_eq_nil_of_le (by simp;omega)
    refine VR.sl_mk (us:=[]) (fun cs h=>hz1 cs (hmem cs h)) (fun cs h=>hz2 cs (hmem cs h)) (by rw[hlen];omega) (capc _) ?_ ?_ ?_
    ·rw[he];exact LR.nil
    ·intro j u hu;simp at hu
    ·intro k hk;simp at hk
   ·rw[if_neg hml]
    rcases hz with hz|hz
    ·subst hz
     simp only[Option.map_some,Addr.add_lit]
     have hfl:=flatten_len es hz1
     have hflat:((es.take h).drop l).flatten=(es.flatten.take (h*z)).drop (l*z):=by
      have t1: ∀(fs:List (List V)) (n:Nat),(∀cs∈fs,cs.length=z)→(fs.take n).flatten=fs.flatten.take (n*z):=by
       intro fs
       induction fs with
       |nil=>intro n _;simp
       |cons x r ih=>
         intro n hf
         have hx:x.length=z:=hf x (by simp)
         cases n with
         |zero=>simp
         |succ n=>
           rw[List.take_succ_cons,List.flatten_cons,List.flatten_cons,ih n (fun cs h=>hf cs (by simp[h])),Nat.add_mul,Nat.one_mul,Nat.add_comm,←hx,List.take_length_add_append]
      have t2: ∀(fs:List (List V)) (n:Nat),(∀cs∈fs,cs.length=z)→(fs.drop n).flatten=fs.flatten.drop (n*z):=by
       intro fs
       induction fs with
       |nil=>intro n _;simp
       |cons x r ih=>
         intro n hf
         have hx:x.length=z:=hf x (by simp)
         cases n with
         |zero=>simp
         |succ n=>
           rw[List.drop_succ_cons,List.flatten_cons,ih n (fun cs h=>hf cs (by simp[h])),Nat.add_mul,Nat.one_mul,Nat.add_comm,←hx,List.drop_length_add_append]
      rw[t2 _ _ (fun cs hcs=>hz1 cs (List.mem_of_mem_take hcs)),t1 _ _ hz1]
     refine VR.sl_mk (us:=(us.take (h*z)).drop (l*z)) (fun cs h=>hz1 cs (hmem cs h)) (fun cs h=>hz2 cs (hmem cs h)) (by rw[hlen];omega) (capc _) ?_ ?_ ?_
     ·rw[hflat];exact(hl.take _).drop _
     ·intro j u hu
      rw[List.getElem?_drop,List.getElem?_take]at hu
      split at hu
      ·have:=hr _ u hu
       rwa [Nat.add_assoc]
      ·cases hu
     ·intro k hk
      have hk':l*z+k<us.length:=by
       have:=hk
       simp only[List.length_drop,List.length_take]at this
       omega
      rw[Nat.add_assoc]
      exact hno _ hk'
    ·subst hz
     have h0:h=0:=by simpa using bh.1
     have l0:l=0:=by omega
     subst h0;subst l0
     have q:=VR.sl_mk (D:=s.length) (w:=w) (γ:=γ) (c:=c') (sz:=z) (es:=[]) (b:=b) (off:=off) (cap:=m-0) (us:=[]) (by simp) (by simp) (by simp) (by simpa using capc ⟨b,off,none⟩) (by simpa using LR.nil) (fun j u hu=>by simp at hu) (fun k hk=>by simp at hk)
     simpa [Addr.add_lit]using q
 obtain⟨base,cap,rfl,hle,hfull,hvr⟩:=sh
 obtain⟨hbh,hh⟩:=bh
 obtain⟨hbl,hl⟩:=bl
 have hz0:(sizeOf el).run P w= .ok z0 w:=run_sizeOf' hi w
 have hres: ∃m,(m=cap∨m=h)∧capOk s.length γ c' z none (h-l) (m-l)∧(c'= .no∨c'= .full)∧
  (Instr.sliceAt t (.slice base es.length cap) ulo uhi umx).run P w= .ok (.slice (if m=l then base else base.map (·.add (l*z0))) (h-l) (m-l)) w:=by
  rcases bm with ⟨rfl,rfl,rfl⟩|⟨⟨km,rfl⟩,rfl,hms⟩
  ·refine⟨cap, .inl rfl,?_,?_,?_⟩
   ·split
    ·rename_i hc
     have:=hfull hc.2
     show cap-l=h-l
     omega
    ·trivial
   ·split<;>simp
   ·have hcc:(h:Int)≤(cap:Int):=by omega
    have hll:(l:Int)≤(h:Int):=by omega
    rcases hh with ⟨_,rfl,rfl⟩|⟨kh,rfl⟩
    ·rcases hl with ⟨rfl,rfl⟩|⟨kl,rfl⟩
     ·simp[Instr.sliceAt,Instr.slice,run_underlying ht,Instr.sliceBounds,hz0]
     ·simp[Instr.sliceAt,Instr.slice,run_underlying ht,Instr.sliceBounds,Instr.sliceBound,asIntOf,hz0,hbl]
    ·rcases hl with ⟨rfl,rfl⟩|⟨kl,rfl⟩
     ·simp[Instr.sliceAt,Instr.slice,run_underlying ht,Instr.sliceBounds,Instr.sliceBound,asIntOf,hz0,show h≤cap by omega]
     ·simp[Instr.sliceAt,Instr.slice,run_underlying ht,Instr.sliceBounds,Instr.sliceBound,asIntOf,hz0,hbl,show h≤cap by omega]
  ·refine⟨h, .inr rfl,rfl, .inr rfl,?_⟩
   rcases hh with ⟨rfl,_,_⟩|⟨kh,rfl⟩
   ·exact absurd (hmh hms) (by simp)
   ·rcases hl with ⟨rfl,rfl⟩|⟨kl,rfl⟩
    ·simp[Instr.sliceAt,Instr.slice,run_underlying ht,Instr.sliceBounds,Instr.sliceBound,asIntOf,hz0,show h≤cap by omega]
    ·simp[Instr.sliceAt,Instr.slice,run_underlying ht,Instr.sliceBounds,Instr.sliceBound,asIntOf,hz0,hbl,show h≤cap by omega]
 obtain⟨m,hm,hc,hcc,hrun⟩:=hres
 exact OpOk.of_run hS hrun (hvr m hm hc hcc)
theorem aslice_sound(hS:SR K s w γ) {t el:TypeId} {z:Nat}(ht:P.underlying t=some (.slice el))(hi:sizeT P el=some z) {d a q o len:Nat} {ux:Value}(hx:VR s.length w γ (.asl d a z q o len) ux)(ha:aliveE q (sget s d a)=true)
 {lo hi':Option V} {ulo uhi umx:Option Value} (hlo:OR s.length w γ lo ulo) (hhi:OR s.length w γ hi' uhi) (hmx:umx=none) {h l:Nat}
 (h1:hiOf hi' len=some h) (h3:loOf lo h=some l) (hlt:l<h):
 OpOk K s w γ ((do pure (Next.value (←Instr.sliceAt t ux ulo uhi umx)):Sem Next).run P w) (.asl d a z q (o+l) (h-l)) none:=by
 subst hmx
 have bh:h≤len∧((uhi=none∧h=len)∨ ∃k,uhi=some (.int k h)):=by
  rcases hhi with ⟨rfl,rfl⟩|⟨x,y,rfl,rfl,hv⟩
  ·simp[hiOf]at h1;subst h1;exact⟨Nat.le_refl _, .inl ⟨rfl,rfl⟩⟩
  ·simp only[hiOf]at h1
   split at h1
   ·rename_i n hn
    split at h1
    ·rename_i hc
     cases h1
     obtain⟨k,rfl⟩:=idx_inv hv hn
     exact⟨by omega, .inr ⟨k,by rw[Int.toNat_of_nonneg hc.1]⟩⟩
    ·cases h1
   ·cases h1
 have bl:(ulo=none∧l=0)∨ ∃k,ulo=some (.int k l):=by
  rcases hlo with ⟨rfl,rfl⟩|⟨x,y,rfl,rfl,hv⟩
  ·simp[loOf]at h3;subst h3;exact .inl ⟨rfl,rfl⟩
  ·simp only[loOf]at h3
   split at h3
   ·rename_i n hn
    split at h3
    ·rename_i hc
     cases h3
     obtain⟨k,rfl⟩:=idx_inv hv hn
     exact .inr ⟨k,by rw[Int.toNat_of_nonneg hc.1]⟩
    ·cases h3
   ·cases h3
 obtain⟨hbh,hh⟩:=bh
 obtain⟨hd,⟨base,_,rfl,rfl,rfl,_⟩|⟨b,c,rfl,hb,hle,hk⟩⟩:=alive_asl hS hx ha
 ·omega
 have hz0:(sizeOf el).run P w= .ok z w:=run_sizeOf' hi w
 have hvr:VR s.length w γ (.asl d a z q (o+l) (h-l)) (.slice (some ⟨b,(o+l)*z,none⟩) (h-l) (c-(o+l))):=hb.1 _ _ (by omega)
 have hcc:(h:Int)≤((c-o:Nat):Int):=by omega
 have hlh:(l:Int)≤(h:Int):=by omega
 have hne: ¬c-o=l:=by omega
 have hbl:l≤h:=by omega
 have hrun:(Instr.sliceAt t (.slice (some ⟨b,o*z,none⟩) len (c-o)) ulo uhi none).run P w= .ok (.slice (some ⟨b,(o+l)*z,none⟩) (h-l) (c-(o+l))) w:=by
  have e1:o*z+l*z=(o+l)*z:=by rw[Nat.add_mul]
  have e2:c-o-l=c-(o+l):=by omega
  rcases hh with ⟨rfl,rfl⟩|⟨kh,rfl⟩
  ·rcases bl with ⟨rfl,rfl⟩|⟨kl,rfl⟩
   ·have h0: ¬c-o=0:=by omega
    simp[Instr.sliceAt,Instr.slice,run_underlying ht,Instr.sliceBounds,hz0,h0,Addr.add_lit]
   ·simp[Instr.sliceAt,Instr.slice,run_underlying ht,Instr.sliceBounds,Instr.sliceBound,asIntOf,hz0,hbl,hne,Addr.add_lit,e1,e2]
  ·rcases bl with ⟨rfl,rfl⟩|⟨kl,rfl⟩
   ·have h0: ¬c-o=0:=by omega
    simp[Instr.sliceAt,Instr.slice,run_underlying ht,Instr.sliceBounds,Instr.sliceBound,asIntOf,hz0,show h≤c-o by omega,h0,Addr.add_lit]
   ·simp[Instr.sliceAt,Instr.slice,run_underlying ht,Instr.sliceBounds,Instr.sliceBound,asIntOf,hz0,hbl,show h≤c-o by omega,hne,Addr.add_lit,e1,e2]
 exact OpOk.of_run hS hrun hvr
end
end Go.Ab

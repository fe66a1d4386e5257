/-
  Operations: 'op_sound': what the evaluator says of an operation (but a call of a function), the model does.
-/
import Derived.Test.YtmgkcipcjabigaaGreatDoorAb2
import Derived.Laws.MakeOwn
set_option linter.unusedSimpArgs false
set_option linter.unusedVariables false
namespace Go.Ab
section
variable {K : KK} {P : Program} {s : Stk} {w : World} {γ : G} {e : Env} {a : Act}
theorem OpOk.of_run(hS:SR K s w γ) {x:Sem Value} {u:Value} {v:V}(h:x.run P w= .ok u w)(hv:VR s.length w γ v u):OpOk K s w γ ((do pure (Next.value (←x)):Sem Next).run P w) v none:=by
 simp only[Sem.run_bind,h,Result.andThen_ok,Sem.run_pure]
 exact OpOk.val hS hv
theorem bin_run {op:BinOp} {t:TypeId} {x y:V} {ux uy:Value} {v:V} {D:Nat}(hx:VR D w γ x ux)(hy:VR D w γ y uy)(h:Ab.bin op x y=some v)(o1 o2:Operand):
 ∃u,((do eqGuard op t o1 o2 ux uy;Go.binOp op t ux uy:Sem Value)).run P w= .ok u w∧VR D w γ v u:=by
 cases x with
 |int k p=>
   cases y with
   |int k' q=>
     cases hx;cases hy
     cases op<;>simp only[Ab.bin]at h
     all_goals try (split at h<;>first|(cases h;done)|skip)
     all_goals try (split at h<;>first|(cases h;done)|skip)
     all_goals try (cases h;done)
     all_goals
      cases h
      refine⟨_,?_,by first|exact .int _ _|exact .bool _⟩
      first
       |simp_all [eqGuard,Go.binOp,Op.intArith,Op.intDiv,Op.intBits,Op.intCmp,Op.shift];done
       | (rename_i hq; have hq' : ¬ q < 0 := by omega
          simp[eqGuard,Go.binOp,Op.shift,hq'])
   |_=>simp[Ab.bin]at h
 |_=>simp[Ab.bin]at h
theorem un_run {op:UnOp} {x:V} {ux:Value} {v:V} {D:Nat}(hx:VR D w γ x ux)(h:Ab.un op x=some v): ∃u,(Op.unary op ux).run P w= .ok u w∧VR D w γ v u:=by
 cases x with
 |int k p=>
   cases hx
   cases op<;>simp only[Ab.un,reduceCtorEq]at h
   all_goals
    cases h
    refine⟨_,?_, .int _ _⟩
    simp[Op.unary,Op.intArith,Op.intBits]
 |bool b=>
   cases hx
   cases op<;>simp only[Ab.un,reduceCtorEq]at h
   cases h
   exact⟨_,by simp[Op.unary], .bool _⟩
 |_=>cases op<;>simp[Ab.un]at h
theorem ptr_mem(hS:SR K s w γ) {d l off:Nat} {u:Value}(h:VR s.length w γ (.ptr d l off) u) {cs:List V}(hg:sget s d l=some (.cell cs)):
 ∃b c,u= .pointer (some ⟨b,off,none⟩)∧γ d l=some (.cell b)∧LR (d+1) w γ cs c∧RD w b 0 c∧d<s.length:=by
 cases h with
 |ptr _ _ _ b hd hb=>
   obtain⟨b',c,el,h1,h2,h3⟩:=hS.cell hg
   rw[hb]at h1;cases h1
   exact⟨b,c.toList,rfl,hb,h3,by simpa using RD.row h2 0,hd⟩
theorem alive_asl(hS:SR K s w γ) {d l z n o k:Nat} {u:Value}(h:VR s.length w γ (.asl d l z n o k) u)(ha:aliveE n (sget s d l)=true):
 d<s.length∧((∃base,u= .slice base 0 0∧n=0∧o=0∧k=0∧γ d l=some (.arr 0 none))∨ ∃b c,u= .slice (some ⟨b,o*z,none⟩) k (c-o)∧((∀o' k',o'+k'≤n→VR s.length w γ (.asl d l z n o' k') (.slice (some ⟨b,o'*z,none⟩) k' (c-o')))∧
  (∀i j,VR s.length w γ (.eptr d l n i j) (.pointer (some ⟨b,i*z+j,none⟩)))∧((∃z' es,sget s d l=some (.arr z' es))→γ d l=some (.arr n (some (b,z,c)))))∧o+k≤n∧n≤c):=by
 cases h with
 |asl _ _ _ _ _ _ b c hd hb hle hk=>exact⟨hd, .inr ⟨b,c,rfl,⟨fun o' k' hk'=> .asl _ _ _ _ _ _ b c hd hb hk' hk,fun i j=> .eptr _ _ _ _ _ b z c hd hb,fun _=>hb⟩,hle,hk⟩⟩
 |aslh _ _ _ _ _ _ lo N f hd hb hn hle hk=>exact⟨hd, .inr ⟨(f n).1,(f n).2,rfl,⟨fun o' k' hk'=> .aslh _ _ _ _ _ _ lo N f hd hb hn hk' hk,fun i j=> .eptrh _ _ _ _ _ z lo N f hd hb hn,fun⟨z',es,hg⟩=>by
  obtain⟨blk',h1,_⟩:=hS.ent d l _ hg
  rw[hb]at h1;cases h1⟩,hle,hk⟩⟩
 |aslho _ _ _ _ _ _ lo N sz' f _ _ _ hd hb hn=>
   cases hg:sget s d l with
   |none=>rw[hg]at ha;cases ha
   |some x=>
     rw[hg]at ha
     cases x with
     |arr z' es=>
       obtain⟨blk',h1,_⟩:=hS.ent d l _ hg
       rw[hb]at h1;cases h1
     |harr lo' z' es=>
       obtain⟨f',h1,_⟩:=hS.ent d l _ hg
       rw[hb]at h1;cases h1
       simp[aliveE]at ha;omega
     |_=>cases ha
 |aslnil _ _ _ base hd hb=>exact⟨hd, .inl ⟨base,rfl,rfl,rfl,rfl,hb⟩⟩
 |aslold _ _ _ _ _ _ N blk _ _ _ hd hb hn=>
   cases hg:sget s d l with
   |none=>rw[hg]at ha;cases ha
   |some x=>
     rw[hg]at ha
     cases x with
     |arr z' es=>
       obtain⟨blk',h1,_⟩:=hS.ent d l _ hg
       rw[hb]at h1;cases h1
       simp[aliveE]at ha;omega
     |harr lo' z' es=>
       obtain⟨f',h1,_⟩:=hS.ent d l _ hg
       rw[hb]at h1;cases h1
     |_=>cases ha
theorem alive_eptr(hS:SR K s w γ) {d l n i j:Nat} {u:Value}(h:VR s.length w γ (.eptr d l n i j) u)(ha:aliveE n (sget s d l)=true):
 ∃b z,u= .pointer (some ⟨b,i*z+j,none⟩)∧(∀j',VR s.length w γ (.eptr d l n i j') (.pointer (some ⟨b,i*z+j',none⟩)))∧d<s.length:=by
 cases h with
 |eptr _ _ _ _ _ b z c hd hb=>exact⟨b,z,rfl,fun j'=> .eptr _ _ _ _ _ b z c hd hb,hd⟩
 |eptrh _ _ _ _ _ z lo N f hd hb hn=>exact⟨(f n).1,z,rfl,fun j'=> .eptrh _ _ _ _ _ z lo N f hd hb hn,hd⟩
 |eptrho _ _ _ _ _ lo N sz' f p hd hb hn=>
   cases hg:sget s d l with
   |none=>rw[hg]at ha;cases ha
   |some x=>
     rw[hg]at ha
     cases x with
     |arr z' es=>
       obtain⟨blk',h1,_⟩:=hS.ent d l _ hg
       rw[hb]at h1;cases h1
     |harr lo' z' es=>
       obtain⟨f',h1,_⟩:=hS.ent d l _ hg
       rw[hb]at h1;cases h1
       simp[aliveE]at ha;omega
     |_=>cases ha
 |eptrold _ _ _ _ _ N blk _ hd hb hn=>
   cases hg:sget s d l with
   |none=>rw[hg]at ha;cases ha
   |some x=>
     rw[hg]at ha
     cases x with
     |arr z' es=>
       obtain⟨blk',h1,_⟩:=hS.ent d l _ hg
       rw[hb]at h1;cases h1
       simp[aliveE]at ha;omega
     |harr lo' z' es=>
       obtain⟨f',h1,_⟩:=hS.ent d l _ hg
       rw[hb]at h1;cases h1
     |_=>cases ha
theorem arr_mem(hS:SR K s w γ) {d l q i j:Nat} {u:Value}(h:VR s.length w γ (.eptr d l q i j) u) {z:Nat} {es:List (List V)}(hg:sget s d l=some (.arr z es))(hq:q=es.length) {cs:List V}(hi:es[i]? =some cs):
 ∃b us,u= .pointer (some ⟨b,i*z+j,none⟩)∧LR (d+1) w γ cs us∧RD w b (i*z) us∧d<s.length:=by
 cases h with
 |eptrh _ _ _ _ _ z lo N f hd hb hn=>
   obtain⟨blk,h1,h0,h2⟩:=hS.ent d l _ hg
   rw[hb]at h1;cases h1
 |eptrho _ _ _ _ _ lo N sz' f p hd hb hn=>
   obtain⟨blk,h1,h0,h2⟩:=hS.ent d l _ hg
   rw[hb]at h1;cases h1
 |eptrold _ _ _ _ _ N blk p hd hb hn2=>
   obtain⟨blk,h1,h0,h2⟩:=hS.ent d l _ hg
   rw[hb]at h1;cases h1
   omega
 |eptr _ _ _ _ _ b sz k hd hb=>
   obtain⟨blk,h1,h0,h2⟩:=hS.ent d l _ hg
   rw[hb,hq]at h1;cases h1
   obtain⟨rfl,c,e,h3,h4,h5,h6,h7,h8⟩:=h2
   have hcs:cs.length=sz:=h0 cs (List.mem_of_getElem? hi)
   have hlt:i<es.length:=(List.getElem?_eq_some_iff.1 hi).1
   have hfit:i*sz+sz≤c.size:=by
    rw[h5]
    calc i*sz+sz=(i+1)*sz:=by rw[Nat.add_mul];omega
     _≤k*sz:=Nat.mul_le_mul_right _ (by omega)
   refine⟨b,(c.toList.drop (i*sz)).take sz,rfl,⟨by simp;omega,fun j v u hv hu=> ?_⟩,?_,hd⟩
   ·rw[List.getElem?_take]at hu
    split at hu
    ·rw[List.getElem?_drop]at hu
     exact h8 i cs j v u hi hv (by simpa using hu)
    ·cases hu
   ·intro j u hu
    rw[List.getElem?_take]at hu
    split at hu
    ·exact RD.row h3 (i*sz) j u hu
    ·cases hu
theorem harr_mem(hS:SR K s w γ) {d l q i j:Nat} {u:Value}(h:VR s.length w γ (.eptr d l q i j) u) {lo z:Nat} {es:List (List V)}(hg:sget s d l=some (.harr lo z es))(hq:lo≤q∧q≤es.length∧i<q) {cs:List V}(hi:es[i]? =some cs):
 ∃b us,u= .pointer (some ⟨b,i*z+j,none⟩)∧LR (d+1) w γ cs us∧RD w b (i*z) us∧d<s.length:=by
 obtain⟨f,h1,h0,hz,hlo,hc,h2⟩:=hS.ent d l _ hg
 cases h with
 |eptr _ _ _ _ _ b sz k hd hb=>rw[hb]at h1;cases h1
 |eptrold _ _ _ _ _ N blk p hd hb hn2=>rw[hb]at h1;cases h1
 |eptrho _ _ _ _ _ lo N sz' f p hd hb hn=>rw[hb]at h1;cases h1;omega
 |eptrh _ _ _ _ _ z' lo' N f' hd hb hn=>
   rw[hb]at h1;cases h1
   obtain⟨_,_,h8⟩:=h2 q hq.1 hq.2.1
   have hcs:=(h0 cs (List.mem_of_getElem? hi)).1
   have hex: ∀j (hj:j<cs.length),∃u,w.cell? ⟨(f q).1,i*z+j,none⟩=some u∧VR (d+1) w γ cs[j] u:=fun j hj=>h8 i cs j cs[j] hq.2.2 hi (List.getElem?_eq_getElem hj)
   refine⟨(f q).1,(List.finRange cs.length).map fun j=>Classical.choose (hex j.1 j.2),rfl,⟨by simp,fun j v u hv hu=> ?_⟩,fun j u hu=> ?_,hd⟩
   ·have hj:j<cs.length:=(List.getElem?_eq_some_iff.1 hv).1
    rw[List.getElem?_eq_getElem hj]at hv;cases hv
    rw[List.getElem?_eq_getElem (by simpa using hj)]at hu
    simp at hu
    rw[←hu]
    exact(Classical.choose_spec (hex j hj)).2
   ·have hj:j<cs.length:=by
     have:=(List.getElem?_eq_some_iff.1 hu).1
     simpa using this
    rw[List.getElem?_eq_getElem (by simpa using hj)]at hu
    simp at hu
    rw[←hu]
    exact(Classical.choose_spec (hex j hj)).1
theorem load_sound(hS:SR K s w γ) {t:TypeId} {n:Option Nat}(hn:nT P t=some n) {x:V} {ux:Value} {v:V} {f:Eff}
 (h:(match x with
 | .ep cs=>(part n cs 0).map fun v=>(v,(none:Eff))
 | .ptr d l off=>match sget s d l with
   |some (.cell cs)=>(part n cs off).map fun v=>(v,none)
   |_=>none
 | .eptr d l q i j=>match sget s d l with
   |some (.arr _ es)=>if q=es.length then(match es[i]? with
     |some cs=>(part n cs j).map fun v=>(v,none)
     |none=>none)else none
   |some (.harr lo _ es)=>if lo≤q∧q≤es.length∧i<q then(match es[i]? with
     |some cs=>(part n cs j).map fun v=>(v,none)
     |none=>none)else none
   |_=>none
 |_=>none)=some (v,f)) (hx:VR s.length w γ x ux):OpOk K s w γ ((do pure (Next.value (←Instr.loadAt t ux)):Sem Next).run P w) v f:=by
 cases x with
 |ep cs=>
   obtain⟨v',hp,h⟩:=Option.map_eq_some_iff.1 h
   cases h
   obtain⟨b,off,us,rfl,hl,hr,_⟩:=hx.ep_inv
   obtain⟨u,h1,h2⟩:=load_ok hn hl hr hp
   exact OpOk.of_run hS (by simpa [Instr.loadAt,Instr.sureAddr]using h1) h2
 |ptr d l off=>
   dsimp only at h
   split at h
   ·rename_i cs hg
    obtain⟨v',hp,h⟩:=Option.map_eq_some_iff.1 h
    cases h
    obtain⟨b,c,rfl,hb,hl,hr,hd⟩:=ptr_mem hS hx hg
    obtain⟨u,h1,h2⟩:=load_ok hn ((show LR s.length w γ cs c from hl.mono (by omega)).drop off) (by simpa using hr.drop off) (part_drop hp)
    exact OpOk.of_run hS (by simpa [Instr.loadAt,Instr.sureAddr]using h1) h2
   ·cases h
 |eptr d l q i j=>
   dsimp only at h
   split at h
   ·rename_i z es hg
    split at h
    ·rename_i hq
     split at h
     ·rename_i cs hi
      obtain⟨v',hp,h⟩:=Option.map_eq_some_iff.1 h
      cases h
      obtain⟨b,us,rfl,hl,hr,hd⟩:=arr_mem hS hx hg hq hi
      obtain⟨u,h1,h2⟩:=load_ok hn ((show LR s.length w γ cs us from hl.mono (by omega)).drop j) (hr.drop j) (part_drop hp)
      exact OpOk.of_run hS (by simpa [Instr.loadAt,Instr.sureAddr]using h1) h2
     ·cases h
    ·cases h
   ·rename_i lo z es hg
    split at h
    ·rename_i hq
     split at h
     ·rename_i cs hi
      obtain⟨v',hp,h⟩:=Option.map_eq_some_iff.1 h
      cases h
      obtain⟨b,us,rfl,hl,hr,hd⟩:=harr_mem hS hx hg hq hi
      obtain⟨u,h1,h2⟩:=load_ok hn ((show LR s.length w γ cs us from hl.mono (by omega)).drop j) (hr.drop j) (part_drop hp)
      exact OpOk.of_run hS (by simpa [Instr.loadAt,Instr.sureAddr]using h1) h2
     ·cases h
    ·cases h
   ·cases h
 |_=>cases h
theorem glob_load(hS:SR K s w γ) {t:TypeId} {g n:Nat} {l:List Int}(hg:K.glob g=some l)(hn:nT P t=some (some n))(hl:n=l.length):OpOk K s w γ ((do pure (Next.value (←Instr.loadAt t (.pointer (some ⟨g,0,none⟩)))):Sem Next).run P w) (.agg (l.map i64)) none:=by
 obtain⟨_,_,h3⟩:=hS.glob g l hg
 have hr:RD w g 0 (l.map fun n=>Value.int .i64 n):=fun j u hj=>by
  rw[List.getElem?_map]at hj
  obtain⟨m,hm,rfl⟩:=Option.map_eq_some_iff.1 hj
  rw[Nat.zero_add]
  exact h3 j m hm
 have hlr:LR s.length w γ (l.map i64) (l.map fun n=>Value.int .i64 n):=by
  clear hl hr h3 hg
  induction l with
  |nil=>exact LR.nil
  |cons a r ih=>exact LR.cons (.int _ _) ih
 obtain⟨u,h1,h2⟩:=load_ok (v:= .agg (l.map i64)) hn hlr hr (by simp[part,hl,List.take_of_length_le])
 exact OpOk.of_run hS (by simpa [Instr.loadAt,Instr.sureAddr]using h1) h2
theorem splice_get {α:Type}(l m:List α)(off:Nat)(h:off+m.length≤l.length)(x:Nat):
 (l.take off ++m ++l.drop (off+m.length))[x]? =if off≤x∧x<off+m.length then m[x-off]? else l[x]? :=by
 have ht:(l.take off).length=off:=by simp;omega
 by_cases h1:x<off
 ·rw[if_neg (by omega),List.append_assoc,List.getElem?_append_left (by omega),List.getElem?_take,if_pos h1]
 ·rw[List.append_assoc,List.getElem?_append_right (by omega),ht]
  by_cases h2:x<off+m.length
  ·rw[if_pos ⟨by omega,h2⟩,List.getElem?_append_left (by omega)]
  ·rw[if_neg (by omega),List.getElem?_append_right (by omega),List.getElem?_drop]
   congr 1;omega
theorem store_arr_ok(hS:SR K s w γ) {d l:Nat} {z:Nat} {es:List (List V)}(hg:sget s d l=some (.arr z es)) {i j b sz k:Nat}(hb:γ d l=some (.arr es.length (some (b,sz,k)))) {cs:List V}(hi:es[i]? =some cs)
 {vs:List V} {us:List Value} (hl:LR (d+1) w γ vs us) (ho:V.oneAll vs=true) (hle:j+vs.length≤cs.length):
 ∃w',(storeCells ⟨b,i*sz+j,none⟩ us).run P w= .ok () w'∧SR K (sput s d l (.arr z (es.set i (setAll cs j vs)))) w' γ∧Ext s.length w γ w' γ:=by
 obtain⟨blk,h1,h0,h2⟩:=hS.ent d l _ hg
 rw[hb]at h1;cases h1
 obtain⟨rfl,c,e,h3,h4,h5,h6,h7,h8⟩:=h2
 have hlen:us.length=vs.length:=hl.1.symm
 have hcs:cs.length=sz:=h0 cs (List.mem_of_getElem? hi)
 have hlt:i<es.length:=(List.getElem?_eq_some_iff.1 hi).1
 have hfit:i*sz+sz≤c.size:=by
  rw[h5]
  calc i*sz+sz=(i+1)*sz:=by rw[Nat.add_mul];omega
   _≤k*sz:=Nat.mul_le_mul_right _ (by omega)
 have hcl:c.toList.length=c.size:=Array.length_toList
 have hrun:=run_storeCells_at P b (i*sz+j) e us 0 c w h3 (by omega) (hl.one (oneAll_mem ho))
 simp only[Nat.add_zero]at hrun
 have hown: ∀o,Own γ b o:=fun o=>⟨d,l,_,hb,rfl⟩
 obtain⟨row,hrow⟩: ∃row,row=(c.toList.take (i*sz+j) ++us ++c.toList.drop (i*sz+j+us.length)).toArray:=⟨_,rfl⟩
 rw[←hrow]at hrun
 have hx:Ext s.length w γ (w.setRow b row) γ:=by
  have:=Ext.setRow s.length (c':=row) hb rfl (g':= .arr es.length (some (b,sz,k))) (fun _ _ h=>h) h3 (fun o u hno _=>absurd (hown o) hno) ⟨0,rfl⟩ (hS.notfrn hb rfl) (fun _ h=>by cases h) (fun _ h=>by cases h) (fun _ _ h=>by cases h) (fun n blk h=>⟨n,blk,h, .inl ⟨rfl,rfl⟩⟩)
  rwa [set_self hb]at this
 have hget: ∀x,row[x]? =if i*sz+j≤x∧x<i*sz+j+us.length then us[x-(i*sz+j)]? else c[x]? :=by
  intro x
  rw[hrow,List.getElem?_toArray,splice_get _ _ _ (by omega)]
  simp
 have hrs:row.size=c.size:=by rw[hrow];simp;omega
 refine⟨_,hrun,hS.step (g:= .arr es.length (some (b,sz,k))) (hS.lt hb) hx (set_self hb).symm ⟨some (b,sz,k),by rw[List.length_set];exact hb,?_,rfl,row,e,setRow_heap w b c _ e _ h3,by simpa using h4,by rw[hrs];exact h5,h6,h7,?_⟩ ?_ ?_,hx⟩
 ·intro x hx'
  rcases List.mem_or_eq_of_mem_set hx' with h|h
  ·exact h0 x h
  ·subst h;rw[setAll_eq vs cs j hle];simp;omega
 ·intro i' cs' j' v u k1 k2 k3
  rw[hget]at k3
  rw[List.getElem?_set]at k1
  by_cases hii:i=i'
  ·subst hii
   rw[if_pos rfl,if_pos hlt]at k1
   cases k1
   rw[setAll_eq vs cs j hle,splice_get _ _ _ hle]at k2
   by_cases hj:j≤j'∧j'<j+vs.length
   ·rw[if_pos hj]at k2
    rw[if_pos (by omega),show i*sz+j'-(i*sz+j)=j'-j by omega]at k3
    exact(hl.2 _ v u k2 k3).ext (hx.mono (hS.lt hb))
   ·rw[if_neg hj]at k2
    rw[if_neg (by omega)]at k3
    exact(h8 i cs j' v u hi k2 k3).ext (hx.mono (hS.lt hb))
  ·rw[if_neg hii]at k1
   have hj':j'<sz:=by rw[←h0 cs' (List.mem_of_getElem? k1)];exact(List.getElem?_eq_some_iff.1 k2).1
   have hne: ¬(i*sz+j≤i'*sz+j'∧i'*sz+j'<i*sz+j+us.length):=by
    rcases Nat.lt_or_gt_of_ne hii with h|h
    ·have:=Nat.mul_le_mul_right sz (show i+1≤i' by omega)
     rw[Nat.add_mul]at this;omega
    ·have:=Nat.mul_le_mul_right sz (show i'+1≤i by omega)
     rw[Nat.add_mul]at this;omega
   rw[if_neg hne]at k3
   exact(h8 i' cs' j' v u k1 k2 k3).ext (hx.mono (hS.lt hb))
 ·intro d' l' g' b1 hne hg' hb1
  refine setRow_other w b b1 _ ?_
  rintro rfl
  exact hne (hS.inj d' l' g' d l _ b1 hg' hb hb1 rfl)
 ·intro b1 hb1 d' l' g' hne hg' hb'
  simp[GE.blk]at hb1;subst hb1
  exact hne (hS.inj d' l' g' d l _ b hg' hb hb' rfl)
theorem store_run_ok(hS:SR K s w γ) {d l:Nat} {z:Nat} {es:List (List V)}(hg:sget s d l=some (.arr z es)) {b sz k:Nat}(hb:γ d l=some (.arr es.length (some (b,sz,k)))) {o:Nat}
 {fs:List (List V)} {us:List Value} (hfs: ∀cs∈fs,cs.length=sz) (hl:LR (d+1) w γ fs.flatten us) (ho:V.oneAll fs.flatten=true) (hle:o+fs.length≤es.length):
 ∃w',(storeCells ⟨b,o*sz,none⟩ us).run P w= .ok () w'∧SR K (sput s d l (.arr z (es.take o ++fs ++es.drop (o+fs.length)))) w' γ∧Ext s.length w γ w' γ:=by
 obtain⟨blk,h1,h0,h2⟩:=hS.ent d l _ hg
 rw[hb]at h1;cases h1
 obtain⟨rfl,c,e,h3,h4,h5,h6,h7,h8⟩:=h2
 have hfl:=flatten_len fs hfs
 have hlen:us.length=fs.length*sz:=by rw[←hl.1,hfl]
 have hfit:o*sz+fs.length*sz≤c.size:=by
  rw[h5,←Nat.add_mul];exact Nat.mul_le_mul_right _ (by omega)
 have hcl:c.toList.length=c.size:=Array.length_toList
 have hrun:=run_storeCells_at P b (o*sz) e us 0 c w h3 (by omega) (hl.one (oneAll_mem ho))
 simp only[Nat.add_zero]at hrun
 have hown: ∀o,Own γ b o:=fun o=>⟨d,l,_,hb,rfl⟩
 obtain⟨row,hrow⟩: ∃row,row=(c.toList.take (o*sz) ++us ++c.toList.drop (o*sz+us.length)).toArray:=⟨_,rfl⟩
 rw[←hrow]at hrun
 have hx:Ext s.length w γ (w.setRow b row) γ:=by
  have:=Ext.setRow s.length (c':=row) hb rfl (g':= .arr es.length (some (b,sz,k))) (fun _ _ h=>h) h3 (fun o u hno _=>absurd (hown o) hno) ⟨0,rfl⟩ (hS.notfrn hb rfl) (fun _ h=>by cases h) (fun _ h=>by cases h) (fun _ _ h=>by cases h) (fun n blk h=>⟨n,blk,h, .inl ⟨rfl,rfl⟩⟩)
  rwa [set_self hb]at this
 have hget: ∀x,row[x]? =if o*sz≤x∧x<o*sz+us.length then us[x-o*sz]? else c[x]? :=by
  intro x
  rw[hrow,List.getElem?_toArray,splice_get _ _ _ (by omega)]
  simp
 have hrs:row.size=c.size:=by rw[hrow];simp;omega
 have hnl:(es.take o ++fs ++es.drop (o+fs.length)).length=es.length:=by simp;omega
 have hng: ∀x:Nat,(es.take o ++fs ++es.drop (o+fs.length))[x]? =if o≤x∧x<o+fs.length then fs[x-o]? else es[x]? :=fun x=>splice_get es fs o (by omega) x
 refine⟨_,hrun,hS.step (g:= .arr es.length (some (b,sz,k))) (hS.lt hb) hx (set_self hb).symm ⟨some (b,sz,k),by rw[hnl];exact hb,?_,rfl,row,e,setRow_heap w b c _ e _ h3,by rw[hnl];exact h4,by rw[hrs];exact h5,h6,h7,?_⟩ ?_ ?_,hx⟩
 ·intro x hx'
  rcases List.mem_append.1 hx' with h|h
  ·rcases List.mem_append.1 h with h|h
   ·exact h0 x (List.mem_of_mem_take h)
   ·exact hfs x h
  ·exact h0 x (List.mem_of_mem_drop h)
 ·intro i' cs' j' v u k1 k2 k3
  rw[hget]at k3
  rw[hng]at k1
  by_cases hii:o≤i'∧i'<o+fs.length
  ·rw[if_pos hii]at k1
   have hj':j'<sz:=by rw[←hfs cs' (List.mem_of_getElem? k1)];exact(List.getElem?_eq_some_iff.1 k2).1
   have e1:i'*sz=o*sz+(i'-o)*sz:=by rw[←Nat.add_mul];congr 1;omega
   have e2:(i'-o)*sz+sz≤fs.length*sz:=by
    calc (i'-o)*sz+sz=(i'-o+1)*sz:=by rw[Nat.add_mul (i'-o)];omega
     _≤fs.length*sz:=Nat.mul_le_mul_right _ (by omega)
   rw[if_pos (by omega),show i'*sz+j'-o*sz=(i'-o)*sz+j' by omega]at k3
   have hf:fs.flatten[(i'-o)*sz+j']? =some v:=by rw[flatten_get fs hfs _ _ hj',k1];exact k2
   exact(hl.2 _ v u hf k3).ext (hx.mono (hS.lt hb))
  ·rw[if_neg hii]at k1
   have hj':j'<sz:=by rw[←h0 cs' (List.mem_of_getElem? k1)];exact(List.getElem?_eq_some_iff.1 k2).1
   have hne: ¬(o*sz≤i'*sz+j'∧i'*sz+j'<o*sz+us.length):=by
    rcases Nat.lt_or_ge i' o with h|h
    ·have:=Nat.mul_le_mul_right sz (show i'+1≤o by omega)
     rw[Nat.add_mul]at this;omega
    ·have:=Nat.mul_le_mul_right sz (show o+fs.length≤i' by omega)
     rw[Nat.add_mul]at this;omega
   rw[if_neg hne]at k3
   exact(h8 i' cs' j' v u k1 k2 k3).ext (hx.mono (hS.lt hb))
 ·intro d' l' g' b1 hne hg' hb1
  refine setRow_other w b b1 _ ?_
  rintro rfl
  exact hne (hS.inj d' l' g' d l _ b1 hg' hb hb1 rfl)
 ·intro b1 hb1 d' l' g' hne hg' hb'
  simp[GE.blk]at hb1;subst hb1
  exact hne (hS.inj d' l' g' d l _ b hg' hb hb' rfl)
theorem store_sound(hS:SR K s w γ)(hs:s≠[]) {t:TypeId} {n:Nat}(hn:sizeT P t=some n) {x y:V} {ux uy:Value} {v:V} {f:Eff}
 (h:(match x with
 | .ptr d l off=>match sget s d l with
   |some (.cell cs)=>
     if d=dep s then
      (if y.cells.length=n∧off+n≤cs.length∧V.oneAll y.cells then some (V.undef,some (d,l,Entry.cell (setAll cs off y.cells)))else none)
     else match y.down d with
      |some v=>if v.cells.length=n∧off+n≤cs.length∧V.oneAll v.cells then some (.undef,some (d,l, .cell (setAll cs off v.cells)))else none
      |none=>none
   |_=>none
 | .eptr d l q i j=>match sget s d l with
   |some (.arr z es)=>if q=es.length then(match es[i]? with
     |some cs=>match (if d=dep s then some y else y.down d)with
       |some v=>if v.cells.length=n∧j+n≤cs.length∧V.oneAll v.cells then some (.undef,some (d,l, .arr z (es.set i (setAll cs j v.cells))))else none
       |none=>none
     |none=>none)else none
   |_=>none
 |_=>none)=some (v,f)) (hx:VR s.length w γ x ux) (hy:VR s.length w γ y uy):OpOk K s w γ ((do Instr.storeAt t ux uy;pure Next.skip:Sem Next).run P w) v f:=by
 have isdef: ∀(y':V),V.oneAll y'.cells=true→y'.isDef=true:=by
  intro y' ho
  cases y' with
  |undef=>simp[V.cells,V.oneAll,V.one]at ho
  |skip=>simp[V.cells,V.oneAll,V.one]at ho
  |_=>rfl
 cases x with
 |ptr d l off=>
   dsimp only at h
   split at h
   ·rename_i cs hg
    obtain⟨b,c,rfl,hb,hl,hr,hd⟩:=ptr_mem hS hx hg
    have key: ∀(y':V),VR (d+1) w γ y' uy→y'.cells.length=n→off+n≤cs.length→V.oneAll y'.cells=true→
     OpOk K s w γ ((do Instr.storeAt t (.pointer (some ⟨b,off,none⟩)) uy;pure Next.skip:Sem Next).run P w) .undef (some (d,l, .cell (setAll cs off y'.cells))):=by
     intro y' hy' hlen hle ho
     have hl':=hy'.cells (isdef y' ho)
     obtain⟨w',h1,h2,h3⟩:=store_ok (P:=P) hS hg hb (off:=off) hl' ho (by omega)
     refine⟨undef,w',γ, .inr ⟨?_,rfl⟩, .undef _,h2,h3⟩
     have hsz:uy.cells.size=n:=by rw[←hlen,hl'.1];simp
     simp[Instr.storeAt,Instr.sureAddr,storeVar,run_sizeOf' hn,hsz,h1]
    split at h
    ·rename_i hd'
     split at h
     ·rename_i hc
      cases h
      exact key y (by rw[hd',dep_succ hs];exact hy) hc.1 hc.2.1 hc.2.2
     ·cases h
    ·split at h
     ·rename_i y' hy'
      split at h
      ·rename_i hc
       cases h
       exact key y' (VR.down' y y' uy hy hy') hc.1 hc.2.1 hc.2.2
      ·cases h
     ·cases h
   ·cases h
 |eptr d l q i j=>
   dsimp only at h
   split at h
   ·rename_i z es hg
    by_cases hq:q=es.length
    case neg=>rw[if_neg hq]at h;cases h
    rw[if_pos hq]at h
    split at h
    ·rename_i cs hi
     split at h
     ·rename_i y' hy'
      split at h
      ·rename_i hc
       cases h
       have hyd:VR (d+1) w γ y' uy:=by
        split at hy'
        ·rename_i hd';cases hy';rw[hd',dep_succ hs];exact hy
        ·exact VR.down' y y' uy hy hy'
       have hl':=hyd.cells (isdef y' hc.2.2)
       cases hx with
       |eptrold _ _ _ _ _ N blk p hd hb hn2=>
         obtain⟨blk,h1,h0,h2⟩:=hS.ent d l _ hg
         rw[hb]at h1;cases h1
         omega
       |eptrh _ _ _ _ _ z lo N f hd hb hn=>
         obtain⟨blk,h1,h0,h2⟩:=hS.ent d l _ hg
         rw[hb]at h1;cases h1
       |eptrho _ _ _ _ _ lo N sz' f p hd hb hn=>
         obtain⟨blk,h1,h0,h2⟩:=hS.ent d l _ hg
         rw[hb]at h1;cases h1
       |eptr _ _ _ _ _ b sz k hd hb=>
         rw[hq]at hb
         obtain⟨w',h1,h2,h3⟩:=store_arr_ok (P:=P) hS hg hb hi (j:=j) hl' hc.2.2 (by omega)
         refine⟨undef,w',γ, .inr ⟨?_,rfl⟩, .undef _,h2,h3⟩
         have hsz:uy.cells.size=n:=by rw[←hc.1,hl'.1];simp
         simp[Instr.storeAt,Instr.sureAddr,storeVar,run_sizeOf' hn,hsz,h1]
      ·cases h
     ·cases h
    ·cases h
   ·cases h
 |_=>cases h
theorem idx_inv {D:Nat} {v:V} {u:Value}(h:VR D w γ v u) {n:Int}(hn:v.idx=some n): ∃k,u= .int k n:=by
 cases v<;>simp[V.idx]at hn
 subst hn
 cases h
 exact⟨_,rfl⟩
theorem elem_pure: ∀ {cs:List V},V.elemAll cs=true→V.pureAll cs=true
 |[],_=>rfl
 |v::r,h=>by simp[V.elemAll]at h;simp[V.pureAll,h.1.1,elem_pure h.2]
theorem pure_drop: ∀ {cs:List V} (n:Nat),V.pureAll cs=true→V.pureAll (cs.drop n)=true
 |cs,0,h=>h
 |[],n+1,_=>rfl
 |v::r,n+1,h=>by simp[V.pureAll]at h;exact pure_drop n h.2
theorem sl_at {D:Nat} {c:Cap} {sz:Nat} {es:List (List V)} {u:Value}(h:VR D w γ (.sl c sz es) u) {n:Nat} {cs:List V}(hn:es[n]? =some cs):
 ∃b off cap,u= .slice (some ⟨b,off,none⟩) es.length cap∧n<es.length∧VR D w γ (.ep cs) (.pointer (some ⟨b,off+n*sz,none⟩)):=by
 have hlt:n<es.length:=(List.getElem?_eq_some_iff.1 hn).1
 cases h with
 |slnil=>simp at hn
 |sl0=>simp at hn
 |sl _ _ _ b off cap hsz hp hle hcap hc hno h=>
   refine⟨b,off,cap,rfl,hlt, .ep cs b (off+n*sz) (elem_pure (hp cs (List.mem_of_getElem? hn))) (fun j v hv=> ?_) (fun j v hv=> ?_) (fun j v u hv hu=> ?_)⟩
   ·obtain⟨u,hu⟩:=hc n cs j v hn hv
    exact⟨u,by rw[Nat.add_assoc];exact hu⟩
   ·rw[Nat.add_assoc];exact hno n cs j v hn hv
   ·rw[Nat.add_assoc]at hu;exact h n cs j v u hn hv hu
theorem ep_drop {D:Nat} {cs:List V} {b off:Nat}(h:VR D w γ (.ep cs) (.pointer (some ⟨b,off,none⟩)))(n:Nat):VR D w γ (.ep (cs.drop n)) (.pointer (some ⟨b,off+n,none⟩)):=by
 obtain⟨b',off',us,e,hl,hr,hno⟩:=h.ep_inv
 cases e
 refine VR.ep_mk (pure_drop n h.ep_pure) (hl.drop n) (hr.drop n) (fun i hi=> ?_)
 rw[Nat.add_assoc]
 exact hno _ (by simp at hi;omega)
def OR(D:Nat)(w:World)(γ:G)(v:Option V)(u:Option Value):Prop:=(v=none∧u=none)∨ ∃x y,v=some x∧u=some y∧VR D w γ x y
theorem slice_sound(hS:SR K s w γ) {t el:TypeId} {z0:Nat}(ht:P.underlying t=some (.slice el))(hi:sizeT P el=some z0) {c:Cap} {z:Nat} {es:List (List V)} {ux:Value}(hx:VR s.length w γ (.sl c z es) ux)
 {lo hi' mx:Option V} {ulo uhi umx:Option Value} (hlo:OR s.length w γ lo ulo) (hhi:OR s.length w γ hi' uhi) (hmx:OR s.length w γ mx umx) {h l:Nat} {c':Cap}
 (hz:z=z0∨es=[]) (h1:hiOf hi' es.length=some h) (h2:mxOf c mx h es.length=some c') (h3:loOf lo h=some l) (hmh:mx.isSome=true→hi'.isSome=true):
 OpOk K s w γ ((do pure (Next.value (←Instr.sliceAt t ux ulo uhi umx)):Sem Next).run P w) (.sl c' z ((es.take h).drop l)) none:=by
 have bh:h≤es.length∧((hi'=none∧uhi=none∧h=es.length)∨ ∃k,uhi=some (.int k h)):=by
  rcases hhi with ⟨rfl,rfl⟩|⟨x,y,rfl,rfl,hv⟩
  ·simp[hiOf]at h1;subst h1;exact⟨Nat.le_refl _, .inl ⟨rfl,rfl,rfl⟩⟩
  ·simp only[hiOf]at h1
   split at h1
   ·rename_i n hn
    split at h1
    ·rename_i hc
     cases h1
     obtain⟨k,rfl⟩:=idx_inv hv hn
     exact⟨by omega, .inr ⟨k,by rw[Int.toNat_of_nonneg hc.1]⟩⟩
    ·cases h1
   ·cases h1
 have bl:l≤h∧((ulo=none∧l=0)∨ ∃k,ulo=some (.int k l)):=by
  rcases hlo with ⟨rfl,rfl⟩|⟨x,y,rfl,rfl,hv⟩
  ·simp[loOf]at h3;subst h3;exact⟨Nat.zero_le _, .inl ⟨rfl,rfl⟩⟩
  ·simp only[loOf]at h3
   split at h3
   ·rename_i n hn
    split at h3
    ·rename_i hc
     cases h3
     obtain⟨k,rfl⟩:=idx_inv hv hn
     exact⟨by omega, .inr ⟨k,by rw[Int.toNat_of_nonneg hc.1]⟩⟩
    ·cases h3
   ·cases h3
 have bm:(mx=none∧umx=none∧c'=(if h=es.length∧c= .full then Cap.full else .no))∨(∃k,umx=some (.int k h))∧c'= .full∧mx.isSome=true:=by
  rcases hmx with ⟨rfl,rfl⟩|⟨x,y,rfl,rfl,hv⟩
  ·simp[mxOf]at h2;exact .inl ⟨rfl,rfl,h2.symm⟩
  ·simp only[mxOf]at h2
   split at h2
   ·rename_i n hn
    split at h2
    ·rename_i hc
     cases h2
     obtain⟨k,rfl⟩:=idx_inv hv hn
     exact .inr ⟨⟨k,by rw[hc]⟩,rfl,rfl⟩
    ·cases h2
   ·cases h2
 have sh: ∃base cap,ux= .slice base es.length cap∧es.length≤cap∧(c= .full→cap=es.length)∧
  ∀m,(m=cap∨m=h)→capOk s.length γ c' z none (h-l) (m-l)→(c'= .no∨c'= .full)→
   VR s.length w γ (.sl c' z ((es.take h).drop l)) (.slice (if m=l then base else base.map (·.add (l*z0))) (h-l) (m-l)):=by
  rcases hx.sl_inv with ⟨base,cap,rfl,rfl,hc,hb0⟩|⟨b,off,cap,us,rfl,hz1,hz2,hle,hcap,hl,hr,hno⟩
  ·refine⟨base,cap,rfl,Nat.zero_le _,fun e=>by subst e;exact hc,fun m hm hc' hcc=> ?_⟩
   have hh:h=0:=by simpa using bh.1
   have hl0:l=0:=by omega
   subst hh;subst hl0
   have hcap': ∀bb,capOk s.length γ c' z bb 0 m:=by
    intro bb
    rcases hcc with rfl|rfl
    ·trivial
    ·have:m-0=0-0:=hc'
     show m=0
     omega
   have hbase:(if m=0 then base else base.map (·.add (0*z0)))=base:=by
    split
    ·rfl
    ·cases base<;>simp[Addr.add]
   rw[hbase]
   refine VR.sl_empty (by simpa using hcap' base) (fun e=> ?_)
   have:=hb0 e
   omega
  ·refine⟨some ⟨b,off,none⟩,cap,rfl,hle,fun e=>by subst e;exact hcap,fun m hm hc' hcc=> ?_⟩
   have hlen:((es.take h).drop l).length=h-l:=by simp;omega
   have hmem: ∀cs∈(es.take h).drop l,cs∈es:=fun cs hcs=>List.mem_of_mem_take (List.mem_of_mem_drop hcs)
   have hmh':h≤m:=by rcases hm with rfl|rfl<;>omega
   have capc: ∀bb,capOk s.length γ c' z (some bb) ((es.take h).drop l).length (m-l):=by
    intro bb
    rw[hlen]
    rcases hcc with rfl|rfl
    ·trivial
    ·exact hc'
   rw[←hlen]
   by_cases hml:m=l
   ·rw[if_pos hml]
    have he:(es.take h).drop l=[]:=List.drop_eq_nil_of_le (by simp;omega)
    refine VR.sl_mk (us:=[]) (fun cs h=>hz1 cs (hmem cs h)) (fun cs h=>hz2 cs (hmem cs h)) (by rw[hlen];omega) (capc _) ?_ ?_ ?_
    ·rw[he];exact LR.nil
    ·intro j u hu;simp at hu
    ·intro k hk;simp at hk
   ·rw[if_neg hml]
    rcases hz with hz|hz
    ·subst hz
     simp only[Option.map_some,Addr.add_lit]
     have hfl:=flatten_len es hz1
     have hflat:((es.take h).drop l).flatten=(es.flatten.take (h*z)).drop (l*z):=by
      have t1: ∀(fs:List (List V)) (n:Nat),(∀cs∈fs,cs.length=z)→(fs.take n).flatten=fs.flatten.take (n*z):=by
       intro fs
       induction fs with
       |nil=>intro n _;simp
       |cons x r ih=>
         intro n hf
         have hx:x.length=z:=hf x (by simp)
         cases n with
         |zero=>simp
         |succ n=>
           rw[List.take_succ_cons,List.flatten_cons,List.flatten_cons,ih n (fun cs h=>hf cs (by simp[h])),Nat.add_mul,Nat.one_mul,Nat.add_comm,←hx,List.take_length_add_append]
      have t2: ∀(fs:List (List V)) (n:Nat),(∀cs∈fs,cs.length=z)→(fs.drop n).flatten=fs.flatten.drop (n*z):=by
       intro fs
       induction fs with
       |nil=>intro n _;simp
       |cons x r ih=>
         intro n hf
         have hx:x.length=z:=hf x (by simp)
         cases n with
         |zero=>simp
         |succ n=>
           rw[List.drop_succ_cons,List.flatten_cons,ih n (fun cs h=>hf cs (by simp[h])),Nat.add_mul,Nat.one_mul,Nat.add_comm,←hx,List.drop_length_add_append]
      rw[t2 _ _ (fun cs hcs=>hz1 cs (List.mem_of_mem_take hcs)),t1 _ _ hz1]
     refine VR.sl_mk (us:=(us.take (h*z)).drop (l*z)) (fun cs h=>hz1 cs (hmem cs h)) (fun cs h=>hz2 cs (hmem cs h)) (by rw[hlen];omega) (capc _) ?_ ?_ ?_
     ·rw[hflat];exact(hl.take _).drop _
     ·intro j u hu
      rw[List.getElem?_drop,List.getElem?_take]at hu
      split at hu
      ·have:=hr _ u hu
       rwa [Nat.add_assoc]
      ·cases hu
     ·intro k hk
      have hk':l*z+k<us.length:=by
       have:=hk
       simp only[List.length_drop,List.length_take]at this
       omega
      rw[Nat.add_assoc]
      exact hno _ hk'
    ·subst hz
     have h0:h=0:=by simpa using bh.1
     have l0:l=0:=by omega
     subst h0;subst l0
     have q:=VR.sl_mk (D:=s.length) (w:=w) (γ:=γ) (c:=c') (sz:=z) (es:=[]) (b:=b) (off:=off) (cap:=m-0) (us:=[]) (by simp) (by simp) (by simp) (by simpa using capc ⟨b,off,none⟩) (by simpa using LR.nil) (fun j u hu=>by simp at hu) (fun k hk=>by simp at hk)
     simpa [Addr.add_lit]using q
 obtain⟨base,cap,rfl,hle,hfull,hvr⟩:=sh
 obtain⟨hbh,hh⟩:=bh
 obtain⟨hbl,hl⟩:=bl
 have hz0:(sizeOf el).run P w= .ok z0 w:=run_sizeOf' hi w
 have hres: ∃m,(m=cap∨m=h)∧capOk s.length γ c' z none (h-l) (m-l)∧(c'= .no∨c'= .full)∧
  (Instr.sliceAt t (.slice base es.length cap) ulo uhi umx).run P w= .ok (.slice (if m=l then base else base.map (·.add (l*z0))) (h-l) (m-l)) w:=by
  rcases bm with ⟨rfl,rfl,rfl⟩|⟨⟨km,rfl⟩,rfl,hms⟩
  ·refine⟨cap, .inl rfl,?_,?_,?_⟩
   ·split
    ·rename_i hc
     have:=hfull hc.2
     show cap-l=h-l
     omega
    ·trivial
   ·split<;>simp
   ·have hcc:(h:Int)≤(cap:Int):=by omega
    have hll:(l:Int)≤(h:Int):=by omega
    rcases hh with ⟨_,rfl,rfl⟩|⟨kh,rfl⟩
    ·rcases hl with ⟨rfl,rfl⟩|⟨kl,rfl⟩
     ·simp[Instr.sliceAt,Instr.slice,run_underlying ht,Instr.sliceBounds,hz0]
     ·simp[Instr.sliceAt,Instr.slice,run_underlying ht,Instr.sliceBounds,Instr.sliceBound,asIntOf,hz0,hbl]
    ·rcases hl with ⟨rfl,rfl⟩|⟨kl,rfl⟩
     ·simp[Instr.sliceAt,Instr.slice,run_underlying ht,Instr.sliceBounds,Instr.sliceBound,asIntOf,hz0,show h≤cap by omega]
     ·simp[Instr.sliceAt,Instr.slice,run_underlying ht,Instr.sliceBounds,Instr.sliceBound,asIntOf,hz0,hbl,show h≤cap by omega]
  ·refine⟨h, .inr rfl,rfl, .inr rfl,?_⟩
   rcases hh with ⟨rfl,_,_⟩|⟨kh,rfl⟩
   ·exact absurd (hmh hms) (by simp)
   ·rcases hl with ⟨rfl,rfl⟩|⟨kl,rfl⟩
    ·simp[Instr.sliceAt,Instr.slice,run_underlying ht,Instr.sliceBounds,Instr.sliceBound,asIntOf,hz0,show h≤cap by omega]
    ·simp[Instr.sliceAt,Instr.slice,run_underlying ht,Instr.sliceBounds,Instr.sliceBound,asIntOf,hz0,hbl,show h≤cap by omega]
 obtain⟨m,hm,hc,hcc,hrun⟩:=hres
 exact OpOk.of_run hS hrun (hvr m hm hc hcc)
theorem aslice_sound(hS:SR K s w γ) {t el:TypeId} {z:Nat}(ht:P.underlying t=some (.slice el))(hi:sizeT P el=some z) {d a q o len:Nat} {ux:Value}(hx:VR s.length w γ (.asl d a z q o len) ux)(ha:aliveE q (sget s d a)=true)
 {lo hi':Option V} {ulo uhi umx:Option Value} (hlo:OR s.length w γ lo ulo) (hhi:OR s.length w γ hi' uhi) (hmx:umx=none) {h l:Nat}
 (h1:hiOf hi' len=some h) (h3:loOf lo h=some l) (hlt:l<h):
 OpOk K s w γ ((do pure (Next.value (←Instr.sliceAt t ux ulo uhi umx)):Sem Next).run P w) (.asl d a z q (o+l) (h-l)) none:=by
 subst hmx
 have bh:h≤len∧((uhi=none∧h=len)∨ ∃k,uhi=some (.int k h)):=by
  rcases hhi with ⟨rfl,rfl⟩|⟨x,y,rfl,rfl,hv⟩
  ·simp[hiOf]at h1;subst h1;exact⟨Nat.le_refl _, .inl ⟨rfl,rfl⟩⟩
  ·simp only[hiOf]at h1
   split at h1
   ·rename_i n hn
    split at h1
    ·rename_i hc
     cases h1
     obtain⟨k,rfl⟩:=idx_inv hv hn
     exact⟨by omega, .inr ⟨k,by rw[Int.toNat_of_nonneg hc.1]⟩⟩
    ·cases h1
   ·cases h1
 have bl:(ulo=none∧l=0)∨ ∃k,ulo=some (.int k l):=by
  rcases hlo with ⟨rfl,rfl⟩|⟨x,y,rfl,rfl,hv⟩
  ·simp[loOf]at h3;subst h3;exact .inl ⟨rfl,rfl⟩
  ·simp only[loOf]at h3
   split at h3
   ·rename_i n hn
    split at h3
    ·rename_i hc
     cases h3
     obtain⟨k,rfl⟩:=idx_inv hv hn
     exact .inr ⟨k,by rw[Int.toNat_of_nonneg hc.1]⟩
    ·cases h3
   ·cases h3
 obtain⟨hbh,hh⟩:=bh
 obtain⟨hd,⟨base,_,rfl,rfl,rfl,_⟩|⟨b,c,rfl,hb,hle,hk⟩⟩:=alive_asl hS hx ha
 ·omega
 have hz0:(sizeOf el).run P w= .ok z w:=run_sizeOf' hi w
 have hvr:VR s.length w γ (.asl d a z q (o+l) (h-l)) (.slice (some ⟨b,(o+l)*z,none⟩) (h-l) (c-(o+l))):=hb.1 _ _ (by omega)
 have hcc:(h:Int)≤((c-o:Nat):Int):=by omega
 have hlh:(l:Int)≤(h:Int):=by omega
 have hne: ¬c-o=l:=by omega
 have hbl:l≤h:=by omega
 have hrun:(Instr.sliceAt t (.slice (some ⟨b,o*z,none⟩) len (c-o)) ulo uhi none).run P w= .ok (.slice (some ⟨b,(o+l)*z,none⟩) (h-l) (c-(o+l))) w:=by
  have e1:o*z+l*z=(o+l)*z:=by rw[Nat.add_mul]
  have e2:c-o-l=c-(o+l):=by omega
  rcases hh with ⟨rfl,rfl⟩|⟨kh,rfl⟩
  ·rcases bl with ⟨rfl,rfl⟩|⟨kl,rfl⟩
   ·have h0: ¬c-o=0:=by omega
    simp[Instr.sliceAt,Instr.slice,run_underlying ht,Instr.sliceBounds,hz0,h0,Addr.add_lit]
   ·simp[Instr.sliceAt,Instr.slice,run_underlying ht,Instr.sliceBounds,Instr.sliceBound,asIntOf,hz0,hbl,hne,Addr.add_lit,e1,e2]
  ·rcases bl with ⟨rfl,rfl⟩|⟨kl,rfl⟩
   ·have h0: ¬c-o=0:=by omega
    simp[Instr.sliceAt,Instr.slice,run_underlying ht,Instr.sliceBounds,Instr.sliceBound,asIntOf,hz0,show h≤c-o by omega,h0,Addr.add_lit]
   ·simp[Instr.sliceAt,Instr.slice,run_underlying ht,Instr.sliceBounds,Instr.sliceBound,asIntOf,hz0,hbl,show h≤c-o by omega,hne,Addr.add_lit,e1,e2]
 exact OpOk.of_run hS hrun hvr
end
end Go.Ab

/-
  Operations: arrays that the frame owns.
-/
namespace Go.Ab
section
variable {K : KK} {s : Stk} {w : World} {γ : G} {P : Program}
theorem arr_new(hS:SR K s w γ)(hs:s≠[]) {lab:Nat}(hn:sget s (dep s) lab=none) {w1:World}(hx1: ∀γ',Ext s.length w γ' w1 γ')(hh:w1.heap=w.heap) {es:List (List V)} {sz k:Nat}(hsz: ∀cs,cs∈es→cs.length=sz)(h0:0<sz)
 {row:Array Value} (hrow:row.size=k*sz) (hk:es.length≤k) (hmax:k≤maxLen) {us:List Value} (hl:LR s.length w γ es.flatten us) (hr: ∀(j:Nat) u,us[j]? =some u→row[j]? =some u) (el:TypeId):
 ∃γ',VR s.length (w1.alloc (.cells row el)) γ' (.asl (dep s) lab sz es.length 0 es.length) (.slice (some ⟨w.heap.size,0,none⟩) es.length k)∧
  SR K (sput s (dep s) lab (.arr sz es)) (w1.alloc (.cells row el)) γ'∧Ext s.length w γ (w1.alloc (.cells row el)) γ':=by
 have hd:=dep_succ hs
 obtain⟨g,hg⟩: ∃g:GE,g= .arr es.length (some (w.heap.size,sz,k)):=⟨_,rfl⟩
 have hx0:Ext s.length w γ w (γ.set (dep s) lab g):=Ext.name _ w γ (hS.none _ _ hn) (fun b off h=>by rw[hg]at h;simp[GE.owns]at h;omega)
 have hx:=(hx0.trans (hx1 _)).trans (Ext.alloc s.length w1 (γ.set (dep s) lab g) (.cells row el) (by rw[hh];exact hS.frn_set _ _ _))
 have hblk:(w1.alloc (.cells row el)).heap[w.heap.size]? =some (.cells row el (0,0)):=by
  have:=heap_alloc_new w1 (.cells row el)
  rwa [hh]at this
 have hvr:VR s.length (w1.alloc (.cells row el)) (γ.set (dep s) lab g) (.asl (dep s) lab sz es.length 0 es.length) (.slice (some ⟨w.heap.size,0*sz,none⟩) es.length (k-0)):= .asl _ _ _ _ _ _ _ _ (by omega) (by rw[G.set_same,hg]) (by omega) hk
 rw[Nat.zero_mul,Nat.sub_zero]at hvr
 refine⟨γ.set (dep s) lab g,hvr,hS.step (by omega) hx rfl ⟨some (w.heap.size,sz,k),by rw[G.set_same,hg],hsz,rfl,row,el,hblk,hk,hrow,h0,hmax,?_⟩ ?_ ?_,hx⟩
 ·intro i cs j v u h1 h2 h3
  rw[hd]
  have hj:j<sz:=by rw[←hsz cs (List.mem_of_getElem? h1)];exact(List.getElem?_eq_some_iff.1 h2).1
  have hf:es.flatten[i*sz+j]? =some v:=by rw[flatten_get es hsz i j hj,h1];exact h2
  have hlt:i*sz+j<us.length:=by rw[←hl.1];exact(List.getElem?_eq_some_iff.1 hf).1
  have:=hr (i*sz+j) us[i*sz+j] (by simp)
  rw[h3]at this;cases this
  exact(hl.2 _ v us[i*sz+j] hf (by simp)).ext hx
 ·intro d' l' g' b _ hg' hb
  have:=heap_alloc_old w1 (.cells row el) b (by rw[hh];exact hS.blk_lt hg' hb)
  rw[this,hh]
 ·intro b hb d' l' g' _ hg' hb'
  rw[hg]at hb;simp[GE.blk]at hb
  have:=hS.blk_lt hg' hb'
  omega
theorem arr_none(hS:SR K s w γ)(hs:s≠[]) {lab:Nat}(hn:sget s (dep s) lab=none)(sz:Nat)(base:Option Addr):
 ∃γ',VR s.length w γ' (.asl (dep s) lab sz 0 0 0) (.slice base 0 0)∧SR K (sput s (dep s) lab (.arr sz [])) w γ'∧Ext s.length w γ w γ':=by
 have hd:=dep_succ hs
 have hx:Ext s.length w γ w (γ.set (dep s) lab (.arr 0 none)):=Ext.name _ w γ (hS.none _ _ hn) (fun b off h=>h.elim)
 exact⟨_, .aslnil _ _ _ base (by omega) (G.set_same _ _ _ _),hS.step (by omega) hx rfl ⟨none,G.set_same _ _ _ _,by simp,rfl⟩ (fun _ _ _ _ _ _ _=>rfl) (fun b hb=>by simp[GE.blk]at hb),hx⟩
theorem replicate_flatten_get {α:Type}(z:List α)(n j:Nat)(h:j<n*z.length):((List.replicate n z).flatten)[j]? =z[j%z.length]? :=by
 induction n generalizing j with
 |zero=>simp at h
 |succ n ih=>
   rw[List.replicate_succ,List.flatten_cons]
   by_cases hj:j<z.length
   ·rw[List.getElem?_append_left hj,Nat.mod_eq_of_lt hj]
   ·rw[List.getElem?_append_right (by omega),ih _ (by rw[Nat.add_mul]at h;omega)]
    congr 1
    exact(Nat.mod_eq_sub_mod (by omega)).symm
theorem mksl_ok(hS:SR K s w γ)(hs:s≠[]) {lab:Nat}(hn:sget s (dep s) lab=none) {t el:TypeId} {i:TypeInfo} {z:List V}(ht:P.underlying t=some (.slice el))(hz:zeroT P el=some z)(hi:P.info? el=some i)(h0:0<z.length)(hsz:i.size=z.length)
 {n:Int} (hn0:0≤n) (hn1:n<140737488355328) (hb:n*i.bytes≤140737488355328) (k1 k2:IntKind):
 ∃u w' γ',(Instr.makeSlice t (.int k1 n) (.int k2 n)).run P w= .ok u w'∧VR s.length w' γ' (.asl (dep s) lab z.length n.toNat 0 n.toNat) u∧
  SR K (sput s (dep s) lab (.arr z.length (List.replicate n.toNat z))) w' γ'∧Ext s.length w γ w' γ':=by
 obtain⟨i',zv,hi',hz',hl,_⟩:=zeroT_ok hz s.length w γ
 rw[hi]at hi';cases hi'
 have hzl:zv.cells.size=z.length:=by simpa using hl.1.symm
 have hrun:=run_make (P:=P) w t el i zv ht hi hz' k1 k2 n n hn0 (Int.le_refl _) (by rw[Int.mul_comm];omega) (by omega)
 have hA:LR s.length w γ (List.replicate n.toNat z).flatten (List.replicate n.toNat zv.cells.toList).flatten:=by
  refine⟨by simp[hzl],fun j v u hv hu=> ?_⟩
  have hj:j<n.toNat*z.length:=by have:=(List.getElem?_eq_some_iff.1 hv).1;simpa using this
  rw[replicate_flatten_get _ _ _ hj]at hv
  rw[replicate_flatten_get _ _ _ (by simpa [hzl]using hj)]at hu
  have e:zv.cells.toList.length=z.length:=by simpa using hzl
  rw[e]at hu
  exact hl.2 _ v u hv hu
 have hB: ∀(j:Nat) u,(List.replicate n.toNat zv.cells.toList).flatten[j]? =some u→(madeCells zv.cells (n.toNat*i.size))[j]? =some u:=by
  intro j u hu
  have hj:j<n.toNat*zv.cells.toList.length:=by have:=(List.getElem?_eq_some_iff.1 hu).1;simpa using this
  rw[replicate_flatten_get _ _ _ hj]at hu
  have hj':j<n.toNat*i.size:=by rw[hsz,←hzl];simpa using hj
  have hm:j%zv.cells.size<zv.cells.size:=Nat.mod_lt _ (by omega)
  have hj2:(Array.range (n.toNat*i.size))[j]? =some j:=by simp[hj']
  simp only[madeCells,Array.getElem?_map,hj2,Option.map_some]
  simp at hu
  rw[getElem!_pos zv.cells (j%zv.cells.size) hm,Option.some.injEq]
  simpa [hm]using hu
 obtain⟨γ',h1,h2,h3⟩:=arr_new hS hs hn (fun γ'=>Ext.refl _ w γ') rfl (es:=List.replicate n.toNat z) (sz:=z.length) (k:=n.toNat) (fun cs hc=>by rw[(List.mem_replicate.1 hc).2]) h0
  (row:=madeCells zv.cells (n.toNat*i.size)) (by rw[size_madeCells,hsz]) (by simp) (by simp only[maxLen];omega) hA hB el
 rw[List.length_replicate]at h1
 exact⟨_,_,γ',hrun,h1,h2,h3⟩
theorem appm_ok(hS:SR K s w γ)(hs:s≠[]) {lab:Nat}(hn:sget s (dep s) lab=none) {t e:TypeId} {i:TypeInfo} {z:Value}(ty:TypeId)(ht:P.underlying t=some (.slice e))(hi:P.info? e=some i)(hz:i.zero=some z)(h0:0<i.size)(hzs:z.cells.size=i.size)
 {sz:Nat} {ux uy:Value} {fs:List (List V)} (hb:fs.length*i.bytes≤140737488355328) (hl:fs.length<140737488355328) (hX:VR s.length w γ (.sl .full sz []) ux)
 (hY:((uy= .slice none 0 0∨ ∃a c,uy= .slice (some a) 0 c)∧fs=[])∨ ∃b off cap us,uy= .slice (some ⟨b,off,none⟩) fs.length cap∧(∀cs,cs∈fs→cs.length=i.size)∧LR s.length w γ fs.flatten us∧RD w b off us):
 ∃u w' γ',(Builtin.append_ #[t,t] ty #[ux,uy]).run P w= .ok u w'∧VR s.length w' γ' (.asl (dep s) lab i.size fs.length 0 fs.length) u∧SR K (sput s (dep s) lab (.arr i.size fs)) w' γ'∧Ext s.length w γ w' γ':=by
 have hmax:fs.length≤maxLen:=by simp only[maxLen];omega
 have h63:((fs.length:Nat):Int)≤9223372036854775807:=by omega
 have shX: ∃base,ux= .slice base 0 0:=by
  rcases hX.sl_inv with ⟨base,cap,rfl,_,hco,_⟩|⟨b,off,cap,us,rfl,_,_,_,hco,_⟩
  ·have:cap=0:=hco
   subst this
   exact⟨_,rfl⟩
  ·have:cap=0:=hco
   subst this
   exact⟨_,rfl⟩
 obtain⟨base,rfl⟩:=shX
 by_cases hfs:fs=[]
 ·subst hfs
  have hy:uy= .slice none 0 0∨ ∃a c,uy= .slice (some a) 0 c:=by
   rcases hY with ⟨h,_⟩|⟨b,off,cap,us,rfl,_⟩
   ·exact h
   ·exact .inr ⟨_,_,rfl⟩
  obtain⟨γ',h1,h2,h3⟩:=arr_none hS hs hn i.size base
  exact⟨_,w,γ',run_append_empty (w:=w) ty ht hi base 0 0 (Nat.le_refl _) (fun _=>rfl) uy hy,h1,h2,h3⟩
 ·have hm:0<fs.length:=List.length_pos_iff.2 hfs
  rcases hY with ⟨_,e0⟩|⟨b2,off2,cap2,news,rfl,hfz,hln,hrn⟩
  ·exact absurd e0 hfs
  have lnews:news.length=fs.length*i.size:=by rw[←hln.1,flatten_len fs hfz]
  have key: ∀(cap:Nat),fs.length≤cap→cap≤maxLen→ ∃γ',VR s.length (w.drew.alloc (.cells (news.toArray ++Builtin.zeroCells z.cells (cap-fs.length)) e)) γ' (.asl (dep s) lab i.size fs.length 0 fs.length) (.slice (some ⟨w.heap.size,0,none⟩) fs.length cap)∧
   SR K (sput s (dep s) lab (.arr i.size fs)) (w.drew.alloc (.cells (news.toArray ++Builtin.zeroCells z.cells (cap-fs.length)) e)) γ'∧Ext s.length w γ (w.drew.alloc (.cells (news.toArray ++Builtin.zeroCells z.cells (cap-fs.length)) e)) γ':=by
   intro cap hge hle
   refine arr_new hS hs hn (fun γ'=>Ext.drew _ w γ') rfl hfz h0 ?_ hge hle hln ?_ e
   ·simp only[Array.size_append,List.size_toArray,zeroCells_size,lnews,hzs,←Nat.add_mul];congr 1;omega
   ·intro j u hu
    have hj:=(List.getElem?_eq_some_iff.1 hu).1
    rw[Array.getElem?_append_left (by simpa using hj)]
    simpa using hu
  rcases base with _|a
  ·have hr:=run_append_nil (P:=P) w t ty e i z ht hi hz ⟨b2,off2,none⟩ fs.length cap2 news lnews hrn.add hm h63 (by omega)
   obtain⟨γ',h1,h2,h3⟩:=key (grownCap w fs.length 0 e) (grownCap_ge w fs.length 0 e) (grownCap_le_maxLen w fs.length 0 e hmax)
   exact⟨_,_,γ',hr,h1,h2,h3⟩
  ·have hr:=run_append_grow (P:=P) w t ty e i z ht hi hz a 0 0 [] (by simp) (fun j u hu=>by simp at hu) ⟨b2,off2,none⟩ fs.length cap2 news lnews hrn.add (by omega) (by omega) (growslice_fits (by omega) (by rw[Nat.zero_add];exact hb))
   simp only[Nat.zero_add,Array.empty_append]at hr
   obtain⟨γ',h1,h2,h3⟩:=key (grownCap w fs.length 0 e) (grownCap_ge w fs.length 0 e) (grownCap_le_maxLen w fs.length 0 e hmax)
   exact⟨_,_,γ',hr,h1,h2,h3⟩
theorem agrow_ok(hS:SR K s w γ) {d l sz:Nat} {es fs:List (List V)} {cap:Nat} {olds news:List Value} {el:TypeId} {z:Array Value}
 (hg:sget s d l=some (.arr sz es)) (hz:z.size=sz) (h0:0<sz) (hcap:es.length+fs.length≤cap) (hmax:cap≤maxLen) (hpos:0<fs.length)
 (hfs: ∀cs∈fs,cs.length=sz) (hlo:LR (d+1) w γ es.flatten olds) (hln:LR (d+1) w γ fs.flatten news):
 ∃γ',VR s.length (w.drew.alloc (.cells (olds.toArray ++news.toArray ++Builtin.zeroCells z (cap-(es.length+fs.length))) el)) γ' (.asl d l sz (es.length+fs.length) 0 (es.length+fs.length)) (.slice (some ⟨w.heap.size,0,none⟩) (es.length+fs.length) cap)∧
  SR K (sput s d l (.arr sz (es ++fs))) (w.drew.alloc (.cells (olds.toArray ++news.toArray ++Builtin.zeroCells z (cap-(es.length+fs.length))) el)) γ'∧
  Ext s.length w γ (w.drew.alloc (.cells (olds.toArray ++news.toArray ++Builtin.zeroCells z (cap-(es.length+fs.length))) el)) γ':=by
 obtain⟨row,hrow⟩: ∃row,row=olds.toArray ++news.toArray ++Builtin.zeroCells z (cap-(es.length+fs.length)):=⟨_,rfl⟩
 rw[←hrow]
 obtain⟨blk,h1,hes,_⟩:=hS.ent d l _ hg
 have hd:d<s.length:=hS.lt h1
 have lo:olds.length=es.length*sz:=by rw[←hlo.1,flatten_len es hes]
 have ln:news.length=fs.length*sz:=by rw[←hln.1,flatten_len fs hfs]
 have hsize:row.size=cap*sz:=by
  rw[hrow];simp only[Array.size_append,List.size_toArray,zeroCells_size,lo,ln,hz,←Nat.add_mul];congr 1;omega
 obtain⟨g,hgd⟩: ∃g:GE,g= .arr (es.length+fs.length) (some (w.heap.size,sz,cap)):=⟨_,rfl⟩
 have hx1:Ext s.length w γ w (γ.set d l g):=by
  refine⟨rfl,rfl,rfl,Nat.le_refl _,Nat.le_refl _,?_,?_,?_,?_,?_,fun _ _ _ h _=>h,?_,fun _ _ _=>rfl,fun _=>G.set_none _ _ _ _ _,fun _ _ _ _ _=>rfl⟩
  ·intro d' l' b _ h
   rw[G.set_other γ g];exact h
   rintro⟨rfl,rfl⟩
   rw[h1]at h;cases h
  ·intro d' l' b _ h
   rw[G.set_other γ g];exact h
   rintro⟨rfl,rfl⟩
   rw[h1]at h;cases h
  ·intro d' l' n' blk' _ h
   by_cases e:d'=d∧l'=l
   ·obtain⟨rfl,rfl⟩:=e
    rw[h1]at h;cases h
    exact⟨_,some (w.heap.size,sz,cap),by rw[G.set_same,hgd], .inr (by omega)⟩
   ·exact⟨n',blk',by rw[G.set_other γ g e];exact h, .inl ⟨rfl,rfl⟩⟩
  ·intro d' l' lo N _ f _ h
   refine⟨lo,N,f,?_,Nat.le_refl _,Nat.le_refl _,fun _ _ _=>rfl⟩
   rw[G.set_other γ g];exact h
   rintro⟨rfl,rfl⟩
   rw[h1]at h;cases h
  ·intro d' l' n' blk' _ h
   refine⟨n',blk',?_, .inl ⟨rfl,rfl⟩⟩
   rw[G.set_other γ g];exact h
   rintro⟨rfl,rfl⟩
   rw[h1]at h;cases h
  ·intro b off hlt hno ho
   rcases own_set ho with h|h
   ·rw[hgd]at h;simp[GE.owns]at h;omega
   ·exact hno h
 have hx:Ext s.length w γ (w.drew.alloc (.cells row el)) (γ.set d l g):=(hx1.trans (Ext.drew s.length w (γ.set d l g))).trans (Ext.alloc s.length w.drew (γ.set d l g) (.cells row el) (hS.frn_set _ _ _))
 have hblk:(w.drew.alloc (.cells row el)).heap[w.heap.size]? =some (.cells row el (0,0)):=heap_alloc_new w.drew _
 have hvr:VR s.length (w.drew.alloc (.cells row el)) (γ.set d l g) (.asl d l sz (es.length+fs.length) 0 (es.length+fs.length)) (.slice (some ⟨w.heap.size,0*sz,none⟩) (es.length+fs.length) (cap-0)):=
  .asl _ _ _ _ _ _ _ _ hd (by rw[G.set_same,hgd]) (by omega) hcap
 rw[Nat.zero_mul,Nat.sub_zero]at hvr
 have hsz: ∀cs,cs∈es ++fs→cs.length=sz:=fun cs h=>by
  rcases List.mem_append.1 h with h|h
  ·exact hes cs h
  ·exact hfs cs h
 refine⟨γ.set d l g,hvr,hS.step hd hx rfl ⟨some (w.heap.size,sz,cap),by rw[G.set_same,hgd,List.length_append],hsz,rfl,row,el,hblk,by rw[List.length_append];exact hcap,hsize,h0,hmax,?_⟩ ?_ ?_,hx⟩
 ·intro i cs j v u k1 k2 k3
  have hj:j<sz:=by rw[←hsz cs (List.mem_of_getElem? k1)];exact(List.getElem?_eq_some_iff.1 k2).1
  have hf:(es ++fs).flatten[i*sz+j]? =some v:=by rw[flatten_get _ hsz i j hj,k1];exact k2
  have hl:LR (d+1) w γ (es ++fs).flatten (olds ++news):=by rw[flatten_append'];exact hlo.append hln
  have hlt:i*sz+j<(olds ++news).length:=by rw[←hl.1];exact(List.getElem?_eq_some_iff.1 hf).1
  have hq:row[i*sz+j]? =(olds ++news)[i*sz+j]? :=by
   rw[hrow]
   simp only[←Array.getElem?_toList,Array.toList_append]
   rw[List.getElem?_append_left hlt]
  rw[hq]at k3
  exact(hl.2 _ v u hf k3).ext (hx.mono (by omega))
 ·intro d' l' g' b _ hg' hb
  exact heap_alloc_old w.drew _ b (by simpa using hS.blk_lt hg' hb)
 ·intro b hb d' l' g' _ hg' hb'
  rw[hgd]at hb;simp[GE.blk]at hb
  have:=hS.blk_lt hg' hb'
  omega
theorem aroom_ok(hS:SR K s w γ) {d l sz:Nat} {es fs:List (List V)} {b k:Nat} {c:Array Value} {el:TypeId} {news:List Value}
 (hg:sget s d l=some (.arr sz es)) (h1:γ d l=some (.arr es.length (some (b,sz,k)))) (hc:w.heap[b]? =some (.cells c el (0,0))) (hsize:c.size=k*sz) (h0:0<sz) (hcap:es.length+fs.length≤k) (hmax:k≤maxLen) (hpos:0<fs.length)
 (hes: ∀cs∈es,cs.length=sz) (hfs: ∀cs∈fs,cs.length=sz) (hold: ∀(i:Nat) cs (j:Nat) v u,es[i]? =some cs→cs[j]? =some v→c[i*sz+j]? =some u→VR (d+1) w γ v u) (hln:LR (d+1) w γ fs.flatten news):
 ∃γ',VR s.length (w.setRow b (c.toList.take (es.length*sz) ++news ++c.toList.drop (es.length*sz+news.length)).toArray) γ' (.asl d l sz (es.length+fs.length) 0 (es.length+fs.length)) (.slice (some ⟨b,0,none⟩) (es.length+fs.length) k)∧
  SR K (sput s d l (.arr sz (es ++fs))) (w.setRow b (c.toList.take (es.length*sz) ++news ++c.toList.drop (es.length*sz+news.length)).toArray) γ'∧
  Ext s.length w γ (w.setRow b (c.toList.take (es.length*sz) ++news ++c.toList.drop (es.length*sz+news.length)).toArray) γ':=by
 obtain⟨row,hrow⟩: ∃row,row=c.toList.take (es.length*sz) ++news ++c.toList.drop (es.length*sz+news.length):=⟨_,rfl⟩
 rw[←hrow]
 have hd:d<s.length:=hS.lt h1
 have ln:news.length=fs.length*sz:=by rw[←hln.1,flatten_len fs hfs]
 have hfit:es.length*sz+fs.length*sz≤c.size:=by rw[hsize,←Nat.add_mul];exact Nat.mul_le_mul_right _ hcap
 have hcl:c.toList.length=c.size:=Array.length_toList
 have hrs:row.toArray.size=k*sz:=by
  rw[hrow];simp only[List.size_toArray,List.length_append,List.length_take,List.length_drop,hcl,ln];omega
 have hget: ∀x,row.toArray[x]? =if es.length*sz≤x∧x<es.length*sz+news.length then news[x-es.length*sz]? else c[x]? :=by
  intro x
  rw[hrow,List.getElem?_toArray,splice_get _ _ _ (by omega)]
  simp
 have hown: ∀o,Own γ b o:=fun o=>⟨d,l,_,h1,rfl⟩
 obtain⟨g',hgd⟩: ∃g:GE,g= .arr (es.length+fs.length) (some (b,sz,k)):=⟨_,rfl⟩
 have hx:Ext s.length w γ (w.setRow b row.toArray) (γ.set d l g'):=
  Ext.setRow s.length h1 rfl (fun b' off h=>by rw[hgd]at h;simp only[GE.owns]at h⊢;exact h) hc (fun off u hno _=>absurd (hown off) hno) ⟨0,rfl⟩ (hS.notfrn h1 rfl) (fun _ h=>by cases h) (fun _ h=>by cases h)
   (fun _ _ h=>by cases h) (fun n' blk h=>by cases h;exact⟨_,some (b,sz,k),hgd, .inr (by omega)⟩)
 have hblk:(w.setRow b row.toArray).heap[b]? =some (.cells row.toArray el (0,0)):=setRow_heap w b c _ el _ hc
 have hvr:VR s.length (w.setRow b row.toArray) (γ.set d l g') (.asl d l sz (es.length+fs.length) 0 (es.length+fs.length)) (.slice (some ⟨b,0*sz,none⟩) (es.length+fs.length) (k-0)):=
  .asl _ _ _ _ _ _ _ _ hd (by rw[G.set_same,hgd]) (by omega) hcap
 rw[Nat.zero_mul,Nat.sub_zero]at hvr
 have hsz: ∀cs,cs∈es ++fs→cs.length=sz:=fun cs h=>by
  rcases List.mem_append.1 h with h|h
  ·exact hes cs h
  ·exact hfs cs h
 refine⟨γ.set d l g',hvr,hS.step hd hx rfl ⟨some (b,sz,k),by rw[G.set_same,hgd,List.length_append],hsz,rfl,row.toArray,el,hblk,by rw[List.length_append];exact hcap,hrs,h0,hmax,?_⟩ ?_ ?_,hx⟩
 ·intro i cs j v u k1 k2 k3
  have hj:j<sz:=by rw[←hsz cs (List.mem_of_getElem? k1)];exact(List.getElem?_eq_some_iff.1 k2).1
  rw[hget]at k3
  by_cases hi:i<es.length
  ·rw[List.getElem?_append_left hi]at k1
   have:i*sz+j<es.length*sz:=by
    have:=Nat.mul_le_mul_right sz (show i+1≤es.length by omega)
    rw[Nat.add_mul]at this;omega
   rw[if_neg (by omega)]at k3
   exact(hold i cs j v u k1 k2 k3).ext (hx.mono (by omega))
  ·rw[List.getElem?_append_right (by omega)]at k1
   have hlt:i-es.length<fs.length:=(List.getElem?_eq_some_iff.1 k1).1
   have hf:fs.flatten[(i-es.length)*sz+j]? =some v:=by rw[flatten_get _ hfs _ j hj,k1];exact k2
   have e1:i*sz+j=es.length*sz+((i-es.length)*sz+j):=by
    rw[←Nat.add_assoc,←Nat.add_mul];congr 2;omega
   have hlt2:(i-es.length)*sz+j<news.length:=by rw[←hln.1];exact(List.getElem?_eq_some_iff.1 hf).1
   rw[if_pos (by omega),show i*sz+j-es.length*sz=(i-es.length)*sz+j by omega]at k3
   exact(hln.2 _ v u hf k3).ext (hx.mono (by omega))
 ·intro d' l' g1 b1 hne hg1 hb1
  refine setRow_other w b b1 _ ?_
  rintro rfl
  exact hne (hS.inj d' l' g1 d l _ b1 hg1 h1 hb1 rfl)
 ·intro b1 hb1 d' l' g1 hne hg1 hb1'
  rw[hgd]at hb1;simp[GE.blk]at hb1;subst hb1
  exact hne (hS.inj d' l' g1 d l _ b hg1 h1 hb1' rfl)
theorem appa_ok(hS:SR K s w γ) {t e:TypeId} {i:TypeInfo} {z:Value}(ty:TypeId)(ht:P.underlying t=some (.slice e))(hi:P.info? e=some i)(hz:i.zero=some z)(h0:0<i.size)(hzs:z.cells.size=i.size)
 {d l:Nat} {es fs:List (List V)} {c':Cap} {sz':Nat} {ux uy:Value} (hb:(es.length+fs.length)*i.bytes≤140737488355328) (hl:es.length+fs.length<140737488355328) (hg:sget s d l=some (.arr i.size es))
 (hX:VR s.length w γ (.asl d l i.size es.length 0 es.length) ux) (hs2:sz'=i.size∨fs=[]) (hY:VR s.length w γ (.sl c' sz' fs) uy) {v:V} {f:Eff}
 (h:(if fs=[]then some (V.asl d l i.size es.length 0 es.length,(none:Eff))else some (.asl d l i.size (es.length+fs.length) 0 (es.length+fs.length),some (d,l, .arr i.size (es ++fs))))=some (v,f)):
 ∃u w' γ',(Builtin.append_ #[t,t] ty #[ux,uy]).run P w= .ok u w'∧VR s.length w' γ' v u∧SR K (seff s f) w' γ'∧Ext s.length w γ w' γ':=by
 have hmax:es.length+fs.length≤maxLen:=by simp only[maxLen];omega
 have h63:((es.length+fs.length:Nat):Int)≤9223372036854775807:=by omega
 obtain⟨blk,g1,hes,g2⟩:=hS.ent d l _ hg
 have hd:d<s.length:=hS.lt g1
 have shX:(∃base,ux= .slice base 0 0∧es=[]∧blk=none)∨ ∃b k,ux= .slice (some ⟨b,0,none⟩) es.length k∧blk=some (b,i.size,k):=by
  cases blk with
  |none=>
    subst g2
    cases hX with
    |asl _ _ _ _ _ _ b k _ hb' _ _=>rw[g1]at hb';cases hb'
    |aslnil _ _ _ base _ hb'=>exact .inl ⟨base,rfl,rfl,rfl⟩
    |aslold _ _ _ _ _ _ N blk _ _ _ _ hb' hn2=>rw[g1]at hb';cases hb';simp at hn2
    |aslh _ _ _ _ _ _ lo N f _ hb'=>rw[g1]at hb';cases hb'
    |aslho _ _ _ _ _ _ lo N sz' f _ _ _ _ hb'=>rw[g1]at hb';cases hb'
  |some y=>
    obtain⟨b,sz',k⟩:=y
    obtain⟨rfl,_⟩:=g2
    generalize hn:es.length=n at*
    cases hX with
    |asl _ _ _ _ _ _ b k _ hb' _ _=>
      rw[g1]at hb';cases hb'
      exact .inr ⟨b,k,by simp,rfl⟩
    |aslnil _ _ _ base _ hb'=>rw[g1]at hb';cases hb'
    |aslold _ _ _ _ _ _ N blk _ _ _ _ hb' hn2=>rw[g1]at hb';cases hb';omega
    |aslh _ _ _ _ _ _ lo N f _ hb'=>rw[g1]at hb';cases hb'
    |aslho _ _ _ _ _ _ lo N sz' f _ _ _ _ hb'=>rw[g1]at hb';cases hb'
 by_cases hfs:fs=[]
 ·rw[if_pos hfs]at h;cases h
  subst hfs
  have hy:uy= .slice none 0 0∨ ∃a c,uy= .slice (some a) 0 c:=by
   rcases hY.sl_inv with ⟨base,cap,rfl,_,_,hb0⟩|⟨b,off,cap,us,rfl,_⟩
   ·cases base with
    |none=>have:=hb0 rfl;subst this;exact .inl rfl
    |some a=>exact .inr ⟨_,_,rfl⟩
   ·exact .inr ⟨_,_,rfl⟩
  rcases shX with ⟨base,rfl,rfl,_⟩|⟨b,k,rfl,rfl⟩
  ·exact⟨_,w,γ,run_append_empty (w:=w) ty ht hi base 0 0 (Nat.le_refl _) (fun _=>rfl) uy hy,hX,hS,Ext.refl _ _ _⟩
  ·obtain⟨_,c,e',h3,h4,_⟩:=g2
   exact⟨_,w,γ,run_append_empty (w:=w) ty ht hi _ _ k h4 (fun h=>by cases h) uy hy,hX,hS,Ext.refl _ _ _⟩
 ·rw[if_neg hfs]at h;cases h
  have hm:0<fs.length:=List.length_pos_iff.2 hfs
  have hs2':sz'=i.size:=hs2.resolve_right hfs
  subst hs2'
  rcases hY.sl_inv with ⟨_,_,_,e0,_⟩|⟨b2,off2,cap2,news,rfl,hfz,hfp,hle2,_,hln,hrn,_⟩
  ·exact absurd e0 hfs
  have lnews:news.length=fs.length*i.size:=by rw[←hln.1,flatten_len fs hfz]
  have hln':LR (d+1) w γ fs.flatten news:=⟨hln.1,fun i v u hv hu=>(hln.2 i v u hv hu).pure' _ (by
   obtain⟨cs,hc,hv⟩:=List.mem_flatten.1 (List.mem_of_getElem? hv)
   exact(elemAll_mem (hfp cs hc) v hv).1)⟩
  rcases shX with ⟨base,rfl,rfl,rfl⟩|⟨b,k,rfl,rfl⟩
  ·have hge:=grownCap_ge w fs.length 0 e
   have hle:=grownCap_le_maxLen w fs.length 0 e (by simpa using hmax)
   obtain⟨γ',h1,h2,h3⟩:=agrow_ok hS hg (fs:=fs) (cap:=grownCap w fs.length 0 e) (olds:=[]) (news:=news) (el:=e) (z:=z.cells) hzs h0 (by simpa using hge) hle hm hfz LR.nil hln'
   simp only[List.length_nil,Nat.zero_add,List.nil_append,Array.empty_append]at h1 h2 h3 hb h63⊢
   rcases base with _|a
   ·have hr:=run_append_nil (P:=P) w t ty e i z ht hi hz ⟨b2,off2,none⟩ fs.length cap2 news lnews hrn.add hm h63 (by omega)
    exact⟨_,_,γ',hr,h1,h2,h3⟩
   ·have hr:=run_append_grow (P:=P) w t ty e i z ht hi hz a 0 0 [] (by simp) (fun j u hu=>by simp at hu) ⟨b2,off2,none⟩ fs.length cap2 news lnews hrn.add (by omega) (by omega) (growslice_fits (by omega) (by rw[Nat.zero_add];exact hb))
    simp only[Nat.zero_add,Array.empty_append]at hr
    exact⟨_,_,γ',hr,h1,h2,h3⟩
  ·obtain⟨_,c,el,h3,h4,h5,h6,h7,h8⟩:=g2
   by_cases hroom:es.length+fs.length≤k
   ·have hfit:es.length*i.size+news.length≤c.size:=by rw[lnews,h5,←Nat.add_mul];exact Nat.mul_le_mul_right _ hroom
    have hst:=run_storeCells_at P b (es.length*i.size) el news 0 c w h3 (by simpa using hfit) (hln.one (fun v hv=>by
     obtain⟨cs,hcs1,hv1⟩:=List.mem_flatten.1 hv
     exact(elemAll_mem (hfp cs hcs1) v hv1).2))
    simp only[Nat.add_zero]at hst
    have hf:=run_firstCells_some (P:=P) w i.size fs.length ⟨b2,off2,none⟩ fs.length cap2 news lnews hrn.add
    obtain⟨γ',k1,k2,k3⟩:=aroom_ok hS hg g1 h3 h5 h0 hroom h7 hm hes hfz h8 hln'
    refine⟨_,_,γ',?_,k1,k2,k3⟩
    simp[Builtin.append_,run_underlying ht,sizeOf,typeInfo,hi,Builtin.lenOf,hroom,hf,Addr.add_lit,hst]
   ·have hlt:k<es.length+fs.length:=by omega
    have hol:LR (d+1) w γ es.flatten (c.toList.take (es.length*i.size)):=by
     have hfl:=flatten_len es hes
     have hsize:es.length*i.size≤c.size:=by rw[h5];exact Nat.mul_le_mul_right _ h4
     refine⟨by rw[hfl];simp;omega,fun x v u hv hu=> ?_⟩
     have hx:x<es.length*i.size:=by rw[←hfl];exact(List.getElem?_eq_some_iff.1 hv).1
     rw[List.getElem?_take,if_pos hx]at hu
     have hx':x=x/i.size*i.size+x%i.size:=by rw[Nat.mul_comm,Nat.div_add_mod]
     have hm2:=Nat.mod_lt x h6
     rw[hx']at hv hu
     rw[flatten_get _ hes _ _ hm2]at hv
     obtain⟨cs,q1,q2⟩:=Option.bind_eq_some_iff.1 hv
     exact h8 _ cs _ v u q1 q2 (by simpa using hu)
    have lus:(c.toList.take (es.length*i.size)).length=es.length*i.size:=by rw[←hol.1,flatten_len es hes]
    have hro:RD w b 0 (c.toList.take (es.length*i.size)):=by
     intro j u hu
     rw[List.getElem?_take]at hu
     split at hu
     ·rw[Nat.zero_add,cell_of_row w b j c el (0,0) h3];simpa using hu
     ·cases hu
    have hr:=run_append_grow (P:=P) w t ty e i z ht hi hz ⟨b,0,none⟩ es.length k _ lus hro.add ⟨b2,off2,none⟩ fs.length cap2 news lnews hrn.add hlt h63 (growslice_fits hlt hb)
    have hge:=grownCap_ge w (es.length+fs.length) k e
    have hle:=grownCap_le_maxLen w (es.length+fs.length) k e hmax
    obtain⟨γ',k1,k2,k3⟩:=agrow_ok hS hg (cap:=grownCap w (es.length+fs.length) k e) (el:=e) (z:=z.cells) hzs h0 hge hle hm hfz hol hln'
    exact⟨_,_,γ',hr,k1,k2,k3⟩
end
end Go.Ab

/-
  Operations: literals in arrays that the frame owns; append to an array of what another array holds; append to an array that only grows.
-/
namespace Go.Ab
section
variable {K : KK} {P : Program} {s : Stk} {w : World} {γ : G} {e : Env} {a : Act}
theorem appg_ok(hS:SR K s w γ) {t e:TypeId} {i:TypeInfo} {z:Value}(ty:TypeId)(ht:P.underlying t=some (.slice e))(hi:P.info? e=some i)(hz:i.zero=some z)(h0:0<i.size)(hzs:z.cells.size=i.size)
 {d l:Nat} {es fs:List (List V)} {ux:Value} (hb:(es.length+fs.length)*i.bytes≤140737488355328) (hl:es.length+fs.length<140737488355328) (hg:sget s d l=some (.arr i.size es))
 (hX:VR s.length w γ (.asl d l i.size es.length 0 es.length) ux) (hm:0<fs.length) (hfz: ∀cs,cs∈fs→cs.length=i.size) {b2 off2 cap2:Nat} {news:List Value} (hln':LR (d+1) w γ fs.flatten news) (hrn:RD w b2 off2 news) (hone: ∀u∈news,u.oneCell'=true):
 ∃u w' γ',(Builtin.append_ #[t,t] ty #[ux, .slice (some ⟨b2,off2,none⟩) fs.length cap2]).run P w= .ok u w'∧VR s.length w' γ' (.asl d l i.size (es.length+fs.length) 0 (es.length+fs.length)) u∧SR K (sput s d l (.arr i.size (es ++fs))) w' γ'∧Ext s.length w γ w' γ':=by
 have hmax:es.length+fs.length≤maxLen:=by simp only[maxLen];omega
 have h63:((es.length+fs.length:Nat):Int)≤9223372036854775807:=by omega
 obtain⟨blk,g1,hes,g2⟩:=hS.ent d l _ hg
 have hd:d<s.length:=hS.lt g1
 have shX:(∃base,ux= .slice base 0 0∧es=[]∧blk=none)∨ ∃b k,ux= .slice (some ⟨b,0,none⟩) es.length k∧blk=some (b,i.size,k):=by
  cases blk with
  |none=>
    subst g2
    cases hX with
    |asl _ _ _ _ _ _ b k _ hb' _ _=>rw[g1]at hb';cases hb'
    |aslnil _ _ _ base _ hb'=>exact .inl ⟨base,rfl,rfl,rfl⟩
    |aslold _ _ _ _ _ _ N blk _ _ _ _ hb' hn2=>rw[g1]at hb';cases hb';simp at hn2
    |aslh _ _ _ _ _ _ lo N f _ hb'=>rw[g1]at hb';cases hb'
    |aslho _ _ _ _ _ _ lo N sz' f _ _ _ _ hb'=>rw[g1]at hb';cases hb'
  |some y=>
    obtain⟨b,sz',k⟩:=y
    obtain⟨rfl,_⟩:=g2
    generalize hn:es.length=n at*
    cases hX with
    |asl _ _ _ _ _ _ b k _ hb' _ _=>
      rw[g1]at hb';cases hb'
      exact .inr ⟨b,k,by simp,rfl⟩
    |aslnil _ _ _ base _ hb'=>rw[g1]at hb';cases hb'
    |aslold _ _ _ _ _ _ N blk _ _ _ _ hb' hn2=>rw[g1]at hb';cases hb';omega
    |aslh _ _ _ _ _ _ lo N f _ hb'=>rw[g1]at hb';cases hb'
    |aslho _ _ _ _ _ _ lo N sz' f _ _ _ _ hb'=>rw[g1]at hb';cases hb'
 have lnews:news.length=fs.length*i.size:=by rw[←hln'.1,flatten_len fs hfz]
 rcases shX with ⟨base,rfl,rfl,rfl⟩|⟨b,k,rfl,rfl⟩
 ·have hge:=grownCap_ge w fs.length 0 e
  have hle:=grownCap_le_maxLen w fs.length 0 e (by simpa using hmax)
  obtain⟨γ',h1,h2,h3⟩:=agrow_ok hS hg (fs:=fs) (cap:=grownCap w fs.length 0 e) (olds:=[]) (news:=news) (el:=e) (z:=z.cells) hzs h0 (by simpa using hge) hle hm hfz LR.nil hln'
  simp only[List.length_nil,Nat.zero_add,List.nil_append,Array.empty_append]at h1 h2 h3 hb h63⊢
  rcases base with _|a
  ·have hr:=run_append_nil (P:=P) w t ty e i z ht hi hz ⟨b2,off2,none⟩ fs.length cap2 news lnews hrn.add hm h63 (by omega)
   exact⟨_,_,γ',hr,h1,h2,h3⟩
  ·have hr:=run_append_grow (P:=P) w t ty e i z ht hi hz a 0 0 [] (by simp) (fun j u hu=>by simp at hu) ⟨b2,off2,none⟩ fs.length cap2 news lnews hrn.add (by omega) (by omega) (growslice_fits (by omega) (by rw[Nat.zero_add];exact hb))
   simp only[Nat.zero_add,Array.empty_append]at hr
   exact⟨_,_,γ',hr,h1,h2,h3⟩
 ·obtain⟨_,c,el,h3,h4,h5,h6,h7,h8⟩:=g2
  by_cases hroom:es.length+fs.length≤k
  ·have hfit:es.length*i.size+news.length≤c.size:=by rw[lnews,h5,←Nat.add_mul];exact Nat.mul_le_mul_right _ hroom
   have hst:=run_storeCells_at P b (es.length*i.size) el news 0 c w h3 (by simpa using hfit) hone
   simp only[Nat.add_zero]at hst
   have hf:=run_firstCells_some (P:=P) w i.size fs.length ⟨b2,off2,none⟩ fs.length cap2 news lnews hrn.add
   obtain⟨γ',k1,k2,k3⟩:=aroom_ok hS hg g1 h3 h5 h0 hroom h7 hm hes hfz h8 hln'
   refine⟨_,_,γ',?_,k1,k2,k3⟩
   simp[Builtin.append_,run_underlying ht,sizeOf,typeInfo,hi,Builtin.lenOf,hroom,hf,Addr.add_lit,hst]
  ·have hlt:k<es.length+fs.length:=by omega
   have hol:LR (d+1) w γ es.flatten (c.toList.take (es.length*i.size)):=by
    have hfl:=flatten_len es hes
    have hsize:es.length*i.size≤c.size:=by rw[h5];exact Nat.mul_le_mul_right _ h4
    refine⟨by rw[hfl];simp;omega,fun x v u hv hu=> ?_⟩
    have hx:x<es.length*i.size:=by rw[←hfl];exact(List.getElem?_eq_some_iff.1 hv).1
    rw[List.getElem?_take,if_pos hx]at hu
    have hx':x=x/i.size*i.size+x%i.size:=by rw[Nat.mul_comm,Nat.div_add_mod]
    have hm2:=Nat.mod_lt x h6
    rw[hx']at hv hu
    rw[flatten_get _ hes _ _ hm2]at hv
    obtain⟨cs,q1,q2⟩:=Option.bind_eq_some_iff.1 hv
    exact h8 _ cs _ v u q1 q2 (by simpa using hu)
   have lus:(c.toList.take (es.length*i.size)).length=es.length*i.size:=by rw[←hol.1,flatten_len es hes]
   have hro:RD w b 0 (c.toList.take (es.length*i.size)):=by
    intro j u hu
    rw[List.getElem?_take]at hu
    split at hu
    ·rw[Nat.zero_add,cell_of_row w b j c el (0,0) h3];simpa using hu
    ·cases hu
   have hr:=run_append_grow (P:=P) w t ty e i z ht hi hz ⟨b,0,none⟩ es.length k _ lus hro.add ⟨b2,off2,none⟩ fs.length cap2 news lnews hrn.add hlt h63 (growslice_fits hlt hb)
   have hge:=grownCap_ge w (es.length+fs.length) k e
   have hle:=grownCap_le_maxLen w (es.length+fs.length) k e hmax
   obtain⟨γ',k1,k2,k3⟩:=agrow_ok hS hg (cap:=grownCap w (es.length+fs.length) k e) (el:=e) (z:=z.cells) hzs h0 hge hle hm hfz hol hln'
   exact⟨_,_,γ',hr,k1,k2,k3⟩
theorem harr_shape(hS:SR K s w γ) {d l lo sz:Nat} {es:List (List V)}(hg:sget s d l=some (.harr lo sz es)) {ux:Value}(hX:VR s.length w γ (.asl d l sz es.length 0 es.length) ux):
 ∃f c el,γ d l=some (.harr lo es.length sz f)∧ux= .slice (some ⟨(f es.length).1,0,none⟩) es.length (f es.length).2∧(∀cs,cs∈es→cs.length=sz∧V.elemAll cs=true)∧0<sz∧lo≤es.length∧
  w.heap[(f es.length).1]? =some (.cells c el (0,0))∧c.size=(f es.length).2*sz∧(f es.length).2≤maxLen∧es.length≤(f es.length).2∧
  (∀m,lo≤m→m≤es.length→m≤(f m).2∧((f m).1=(f es.length).1∨(f m).1<w.heap.size∧ ∀off,¬Own γ (f m).1 off)∧
  ∀(i:Nat) cs (j:Nat) v,i<m→es[i]? =some cs→cs[j]? =some v→ ∃u,w.cell? ⟨(f m).1,i*sz+j,Option.none⟩=some u∧VR (d+1) w γ v u):=by
 obtain⟨f,h1,h0,hz,hlo,⟨c,el,h4,h5,h6⟩,h2⟩:=hS.ent d l _ hg
 refine⟨f,c,el,h1,?_,h0,hz,hlo,h4,h5,h6,(h2 _ hlo (Nat.le_refl _)).1,h2⟩
 generalize hn:es.length=n at*
 cases hX with
 |asl _ _ _ _ _ _ b k _ hb' _ _=>rw[h1]at hb';cases hb'
 |aslnil _ _ _ base _ hb'=>rw[h1]at hb';cases hb'
 |aslold _ _ _ _ _ _ N blk _ _ _ _ hb' hn2=>rw[h1]at hb';cases hb'
 |aslh _ _ _ _ _ _ lo N f' _ hb'=>rw[h1]at hb';cases hb';simp
 |aslho _ _ _ _ _ _ lo N sz' f' _ _ _ _ hb' hn2=>rw[h1]at hb';cases hb';omega
theorem hgrow_ok(hS:SR K s w γ) {d l lo sz:Nat} {es fs:List (List V)} {cap:Nat} {olds news:List Value} {el:TypeId} {z:Array Value}
 (hg:sget s d l=some (.harr lo sz es)) (hz:z.size=sz) (hcap:es.length+fs.length≤cap) (hmax:cap≤maxLen) (hpos:0<fs.length)
 (hfs: ∀cs∈fs,cs.length=sz∧V.elemAll cs=true) (hlo:LR (d+1) w γ es.flatten olds) (hln:LR (d+1) w γ fs.flatten news):
 ∃γ',VR s.length (w.drew.alloc (.cells (olds.toArray ++news.toArray ++Builtin.zeroCells z (cap-(es.length+fs.length))) el)) γ' (.asl d l sz (es.length+fs.length) 0 (es.length+fs.length)) (.slice (some ⟨w.heap.size,0,none⟩) (es.length+fs.length) cap)∧
  SR K (sput s d l (.harr lo sz (es ++fs))) (w.drew.alloc (.cells (olds.toArray ++news.toArray ++Builtin.zeroCells z (cap-(es.length+fs.length))) el)) γ'∧
  Ext s.length w γ (w.drew.alloc (.cells (olds.toArray ++news.toArray ++Builtin.zeroCells z (cap-(es.length+fs.length))) el)) γ':=by
 obtain⟨row,hrow⟩: ∃row,row=olds.toArray ++news.toArray ++Builtin.zeroCells z (cap-(es.length+fs.length)):=⟨_,rfl⟩
 rw[←hrow]
 obtain⟨f,h1,hes,h0,hl0,⟨c0,el0,h4,h5,h6⟩,h2⟩:=hS.ent d l _ hg
 have hd:d<s.length:=hS.lt h1
 have lo':olds.length=es.length*sz:=by rw[←hlo.1,flatten_len es (fun cs h=>(hes cs h).1)]
 have ln:news.length=fs.length*sz:=by rw[←hln.1,flatten_len fs (fun cs h=>(hfs cs h).1)]
 have hsize:row.size=cap*sz:=by
  rw[hrow];simp only[Array.size_append,List.size_toArray,zeroCells_size,lo',ln,hz,←Nat.add_mul];congr 1;omega
 obtain⟨f',hf'⟩: ∃f':Nat→Nat×Nat,f'=fun x=>if x≤es.length then f x else(w.heap.size,cap):=⟨_,rfl⟩
 have hfN:f' (es.length+fs.length)=(w.heap.size,cap):=by rw[hf'];simp;omega
 obtain⟨g,hgd⟩: ∃g:GE,g= .harr lo (es.length+fs.length) sz f':=⟨_,rfl⟩
 have hx1:Ext s.length w γ w (γ.set d l g):=by
  refine⟨rfl,rfl,rfl,Nat.le_refl _,Nat.le_refl _,?_,?_,?_,?_,?_,fun _ _ _ h _=>h,?_,fun _ _ _=>rfl,fun _=>G.set_none _ _ _ _ _,fun _ _ _ _ _=>rfl⟩
  ·intro d' l' b _ h
   rw[G.set_other γ g];exact h
   rintro⟨rfl,rfl⟩
   rw[h1]at h;cases h
  ·intro d' l' b _ h
   rw[G.set_other γ g];exact h
   rintro⟨rfl,rfl⟩
   rw[h1]at h;cases h
  ·intro d' l' n' blk' _ h
   refine⟨n',blk',?_, .inl ⟨rfl,rfl⟩⟩
   rw[G.set_other γ g];exact h
   rintro⟨rfl,rfl⟩
   rw[h1]at h;cases h
  ·intro d' l' lo1 N1 sz1 f1 _ h
   by_cases e:d'=d∧l'=l
   ·obtain⟨rfl,rfl⟩:=e
    rw[h1]at h;cases h
    exact⟨lo,es.length+fs.length,f',by rw[G.set_same,hgd],Nat.le_refl _,by omega,fun m _ hm=>by rw[hf'];simp[hm]⟩
   ·exact⟨lo1,N1,f1,by rw[G.set_other γ g e];exact h,Nat.le_refl _,Nat.le_refl _,fun _ _ _=>rfl⟩
  ·intro d' l' n' blk' _ h
   refine⟨n',blk',?_, .inl ⟨rfl,rfl⟩⟩
   rw[G.set_other γ g];exact h
   rintro⟨rfl,rfl⟩
   rw[h1]at h;cases h
  ·intro b off hlt hno ho
   rcases own_set ho with h|h
   ·rw[hgd]at h;simp[GE.owns,hfN]at h;omega
   ·exact hno h
 have hx:Ext s.length w γ (w.drew.alloc (.cells row el)) (γ.set d l g):=(hx1.trans (Ext.drew s.length w (γ.set d l g))).trans (Ext.alloc s.length w.drew (γ.set d l g) (.cells row el) (hS.frn_set _ _ _))
 have hblk:(w.drew.alloc (.cells row el)).heap[w.heap.size]? =some (.cells row el (0,0)):=heap_alloc_new w.drew _
 have hold: ∀b,b<w.heap.size→(w.drew.alloc (.cells row el)).heap[b]? =w.heap[b]? :=fun b hb=>heap_alloc_old w.drew _ b hb
 have hvr:VR s.length (w.drew.alloc (.cells row el)) (γ.set d l g) (.asl d l sz (es.length+fs.length) 0 (es.length+fs.length)) (.slice (some ⟨(f' (es.length+fs.length)).1,0*sz,none⟩) (es.length+fs.length) ((f' (es.length+fs.length)).2-0)):=
  .aslh _ _ _ _ _ _ lo _ f' hd (by rw[G.set_same,hgd]) ⟨by omega,Nat.le_refl _⟩ (by omega) (by rw[hfN];exact hcap)
 rw[Nat.zero_mul,Nat.sub_zero,hfN]at hvr
 have hsz: ∀cs,cs∈es ++fs→cs.length=sz∧V.elemAll cs=true:=fun cs h=>by
  rcases List.mem_append.1 h with h|h
  ·exact hes cs h
  ·exact hfs cs h
 have hb0:(f es.length).1<w.heap.size:=(Array.getElem?_eq_some_iff.1 h4).1
 refine⟨γ.set d l g,hvr,hS.step hd hx rfl ⟨f',by rw[G.set_same,hgd,List.length_append],hsz,h0,by rw[List.length_append];omega,⟨row,el,by rw[List.length_append,hfN];exact hblk,by rw[List.length_append,hfN];exact hsize,by rw[List.length_append,hfN];exact hmax⟩,fun m m1 m2=> ?_⟩ ?_ ?_,hx⟩
 ·rw[List.length_append]at m2
  rw[List.length_append,hfN]
  by_cases hm:m≤es.length
  ·have e:f' m=f m:=by rw[hf'];simp[hm]
   rw[e]
   obtain⟨q1,q2,q3⟩:=h2 m m1 hm
   have hlt:(f m).1<w.heap.size:=by
    rcases q2 with q2|q2
    ·rw[q2];exact hb0
    ·exact q2.1
   have hne:(f m).1≠w.heap.size:=by omega
   refine⟨q1, .inr ⟨Nat.lt_of_lt_of_le hlt hx.size,fun off ho=> ?_⟩,fun i cs j v k0 k1 k2=> ?_⟩
   ·rcases q2 with q2|q2
    ·rcases own_set' ho with h|⟨d2,l2,g2,hne2,k1,k2⟩
     ·rw[hgd]at h;simp[GE.owns,hfN]at h;omega
     ·exact hne2 (hS.inj d2 l2 g2 d l _ (f m).1 k1 h1 (GE.owns_blk k2) (by rw[q2];rfl))
    ·exact hx.free _ off hlt (q2.2 off) ho
   ·have hi:i<es.length:=by omega
    rw[List.getElem?_append_left hi]at k1
    obtain⟨u,k3,k4⟩:=q3 i cs j v k0 k1 k2
    refine⟨u,?_,k4.ext (hx.mono (by omega))⟩
    rw[World.cell?_of_block (a:=⟨(f m).1,i*sz+j,Option.none⟩) (hold _ hlt)]
    exact k3
  ·have e:f' m=(w.heap.size,cap):=by rw[hf'];simp[hm]
   rw[e]
   refine⟨by omega, .inl rfl,fun i cs j v k0 k1 k2=> ?_⟩
   have hj:j<sz:=by rw[←(hsz cs (List.mem_of_getElem? k1)).1];exact(List.getElem?_eq_some_iff.1 k2).1
   have hf:(es ++fs).flatten[i*sz+j]? =some v:=by rw[flatten_get _ (fun cs h=>(hsz cs h).1) i j hj,k1];exact k2
   have hl:LR (d+1) w γ (es ++fs).flatten (olds ++news):=by rw[flatten_append'];exact hlo.append hln
   have hlt:i*sz+j<(olds ++news).length:=by rw[←hl.1];exact(List.getElem?_eq_some_iff.1 hf).1
   have hq:row[i*sz+j]? =some (olds ++news)[i*sz+j]:=by
    rw[hrow]
    simp only[←Array.getElem?_toList,Array.toList_append]
    rw[List.getElem?_append_left hlt,List.getElem?_eq_getElem hlt]
   refine⟨_,?_,(hl.2 _ v _ hf (List.getElem?_eq_getElem hlt)).ext (hx.mono (by omega))⟩
   rw[cell_of_row _ w.heap.size _ row el (0,0) hblk]
   exact hq
 ·intro d' l' g' b _ hg' hb
  exact heap_alloc_old w.drew _ b (by simpa using hS.blk_lt hg' hb)
 ·intro b hb d' l' g' _ hg' hb'
  rw[hgd]at hb;simp[GE.blk,hfN]at hb
  have:=hS.blk_lt hg' hb'
  omega
theorem hroom_ok(hS:SR K s w γ) {d l lo sz:Nat} {es fs:List (List V)} {f:Nat→Nat×Nat} {b k:Nat} {c:Array Value} {el:TypeId} {news:List Value}
 (hg:sget s d l=some (.harr lo sz es)) (h1:γ d l=some (.harr lo es.length sz f)) (hfb:f es.length=(b,k)) (hc:w.heap[b]? =some (.cells c el (0,0))) (hcap:es.length+fs.length≤k) (hpos:0<fs.length)
 (hfs: ∀cs∈fs,cs.length=sz∧V.elemAll cs=true) (hln:LR (d+1) w γ fs.flatten news):
 ∃γ',VR s.length (w.setRow b (c.toList.take (es.length*sz) ++news ++c.toList.drop (es.length*sz+news.length)).toArray) γ' (.asl d l sz (es.length+fs.length) 0 (es.length+fs.length)) (.slice (some ⟨b,0,none⟩) (es.length+fs.length) k)∧
  SR K (sput s d l (.harr lo sz (es ++fs))) (w.setRow b (c.toList.take (es.length*sz) ++news ++c.toList.drop (es.length*sz+news.length)).toArray) γ'∧
  Ext s.length w γ (w.setRow b (c.toList.take (es.length*sz) ++news ++c.toList.drop (es.length*sz+news.length)).toArray) γ':=by
 obtain⟨row,hrow⟩: ∃row,row=c.toList.take (es.length*sz) ++news ++c.toList.drop (es.length*sz+news.length):=⟨_,rfl⟩
 rw[←hrow]
 obtain⟨f0,h10,hes,h0,hl0,⟨c0,el0,h4,h5,h6⟩,h2⟩:=hS.ent d l _ hg
 rw[h1]at h10;cases h10
 rw[hfb]at h4 h5 h6
 rw[hc]at h4;cases h4
 have hd:d<s.length:=hS.lt h1
 have ln:news.length=fs.length*sz:=by rw[←hln.1,flatten_len fs (fun cs h=>(hfs cs h).1)]
 have hfit:es.length*sz+fs.length*sz≤c.size:=by rw[h5,←Nat.add_mul];exact Nat.mul_le_mul_right _ hcap
 have hcl:c.toList.length=c.size:=Array.length_toList
 have hrs:row.toArray.size=k*sz:=by
  rw[hrow];simp only[List.size_toArray,List.length_append,List.length_take,List.length_drop,hcl,ln];simp only at h5;omega
 have hget: ∀x,row.toArray[x]? =if es.length*sz≤x∧x<es.length*sz+news.length then news[x-es.length*sz]? else c[x]? :=by
  intro x
  rw[hrow,List.getElem?_toArray,splice_get _ _ _ (by omega)]
  simp
 have hown: ∀o,Own γ b o:=fun o=>⟨d,l,_,h1,by simp[GE.owns,hfb]⟩
 obtain⟨f',hf'⟩: ∃f':Nat→Nat×Nat,f'=fun x=>if x≤es.length then f x else(b,k):=⟨_,rfl⟩
 have hfN:f' (es.length+fs.length)=(b,k):=by rw[hf'];simp;omega
 obtain⟨g',hgd⟩: ∃g:GE,g= .harr lo (es.length+fs.length) sz f':=⟨_,rfl⟩
 have hx:Ext s.length w γ (w.setRow b row.toArray) (γ.set d l g'):=
  Ext.setRow s.length h1 (by simp[GE.blk,hfb]) (fun b' off h=>by rw[hgd]at h;simp only[GE.owns,hfN,hfb]at h⊢;exact h) hc (fun off u hno _=>absurd (hown off) hno) ⟨0,by simp[GE.owns,hfb]⟩ (hS.notfrn h1 (by simp[GE.blk,hfb])) (fun _ h=>by cases h) (fun _ h=>by cases h)
   (fun _ _ h=>by cases h) (fun n' blk h=>by cases h) (fun lo1 N1 sz1 f1 h=>by cases h;exact⟨lo,_,f',hgd,Nat.le_refl _,by omega,fun m _ hm=>by rw[hf'];simp[hm]⟩)
 have hblk:(w.setRow b row.toArray).heap[b]? =some (.cells row.toArray el (0,0)):=setRow_heap w b c _ el _ hc
 have hvr:VR s.length (w.setRow b row.toArray) (γ.set d l g') (.asl d l sz (es.length+fs.length) 0 (es.length+fs.length)) (.slice (some ⟨(f' (es.length+fs.length)).1,0*sz,none⟩) (es.length+fs.length) ((f' (es.length+fs.length)).2-0)):=
  .aslh _ _ _ _ _ _ lo _ f' hd (by rw[G.set_same,hgd]) ⟨by omega,Nat.le_refl _⟩ (by omega) (by rw[hfN];exact hcap)
 rw[Nat.zero_mul,Nat.sub_zero,hfN]at hvr
 have hsz: ∀cs,cs∈es ++fs→cs.length=sz∧V.elemAll cs=true:=fun cs h=>by
  rcases List.mem_append.1 h with h|h
  ·exact hes cs h
  ·exact hfs cs h
 have hbs:b<w.heap.size:=(Array.getElem?_eq_some_iff.1 hc).1
 have hfirst: ∀(i j:Nat),i<es.length→j<sz→row.toArray[i*sz+j]? =c[i*sz+j]? :=fun i j hi hj=>by
  have:=Nat.mul_le_mul_right sz (show i+1≤es.length by omega)
  rw[Nat.add_mul]at this
  rw[hget,if_neg (by omega)]
 refine⟨γ.set d l g',hvr,hS.step hd hx rfl ⟨f',by rw[G.set_same,hgd,List.length_append],hsz,h0,by rw[List.length_append];omega,⟨row.toArray,el,by rw[List.length_append,hfN];exact hblk,by rw[List.length_append,hfN];exact hrs,by rw[List.length_append,hfN];exact h6⟩,fun m m1 m2=> ?_⟩ ?_ ?_,hx⟩
 ·rw[List.length_append]at m2
  rw[List.length_append,hfN]
  by_cases hm:m≤es.length
  ·have e:f' m=f m:=by rw[hf'];simp[hm]
   rw[e]
   obtain⟨q1,q2,q3⟩:=h2 m m1 hm
   rw[hfb]at q2
   refine⟨q1,?_,fun i cs j v k0 k1 k2=> ?_⟩
   ·rcases q2 with q2|q2
    ·exact .inl q2
    ·exact .inr ⟨by simpa using q2.1,fun off ho=>hx.free _ off q2.1 (q2.2 off) ho⟩
   ·have hi:i<es.length:=by omega
    have hj:j<sz:=by rw[←(hsz cs (List.mem_of_getElem? k1)).1];exact(List.getElem?_eq_some_iff.1 k2).1
    rw[List.getElem?_append_left hi]at k1
    obtain⟨u,k3,k4⟩:=q3 i cs j v k0 k1 k2
    refine⟨u,?_,k4.ext (hx.mono (by omega))⟩
    by_cases hb1:(f m).1=b
    ·rw[hb1]at k3⊢
     rw[cell_of_row _ b _ c el (0,0) hc]at k3
     rw[cell_of_row _ b _ row.toArray el (0,0) hblk,hfirst i j hi hj]
     exact k3
    ·rcases q2 with q2|q2
     ·exact absurd q2 hb1
     ·exact hx.keep _ _ _ k3 (q2.2 _)
  ·have e:f' m=(b,k):=by rw[hf'];simp[hm]
   rw[e]
   refine⟨by omega, .inl rfl,fun i cs j v k0 k1 k2=> ?_⟩
   have hj:j<sz:=by rw[←(hsz cs (List.mem_of_getElem? k1)).1];exact(List.getElem?_eq_some_iff.1 k2).1
   rw[cell_of_row _ b _ row.toArray el (0,0) hblk]
   by_cases hi:i<es.length
   ·rw[List.getElem?_append_left hi]at k1
    obtain⟨_,_,q3⟩:=h2 es.length hl0 (Nat.le_refl _)
    obtain⟨u,k3,k4⟩:=q3 i cs j v hi k1 k2
    rw[hfb,cell_of_row _ b _ c el (0,0) hc]at k3
    exact⟨u,by rw[hfirst i j hi hj];exact k3,k4.ext (hx.mono (by omega))⟩
   ·rw[List.getElem?_append_right (by omega)]at k1
    have hlt:i-es.length<fs.length:=(List.getElem?_eq_some_iff.1 k1).1
    have hf:fs.flatten[(i-es.length)*sz+j]? =some v:=by rw[flatten_get _ (fun cs h=>(hfs cs h).1) _ j hj,k1];exact k2
    have e1:i*sz+j=es.length*sz+((i-es.length)*sz+j):=by
     rw[←Nat.add_assoc,←Nat.add_mul];congr 2;omega
    have hlt2:(i-es.length)*sz+j<news.length:=by rw[←hln.1];exact(List.getElem?_eq_some_iff.1 hf).1
    refine⟨news[(i-es.length)*sz+j],?_,(hln.2 _ v _ hf (List.getElem?_eq_getElem hlt2)).ext (hx.mono (by omega))⟩
    rw[hget,if_pos (by omega),show i*sz+j-es.length*sz=(i-es.length)*sz+j by omega,List.getElem?_eq_getElem hlt2]
 ·intro d' l' g1 b1 hne hg1 hb1
  refine setRow_other w b b1 _ ?_
  rintro rfl
  exact hne (hS.inj d' l' g1 d l _ b1 hg1 h1 hb1 (by simp[GE.blk,hfb]))
 ·intro b1 hb1 d' l' g1 hne hg1 hb1'
  rw[hgd]at hb1;simp[GE.blk,hfN]at hb1;subst hb1
  exact hne (hS.inj d' l' g1 d l _ b hg1 h1 hb1' (by simp[GE.blk,hfb]))
theorem happ_ok(hS:SR K s w γ) {t e:TypeId} {i:TypeInfo} {z:Value}(ty:TypeId)(ht:P.underlying t=some (.slice e))(hi:P.info? e=some i)(hz:i.zero=some z)(hzs:z.cells.size=i.size)
 {d l lo:Nat} {es fs:List (List V)} {c':Cap} {ux uy:Value} (hb:(es.length+fs.length)*i.bytes≤140737488355328) (hl:es.length+fs.length<140737488355328) (hg:sget s d l=some (.harr lo i.size es))
 (hX:VR s.length w γ (.asl d l i.size es.length 0 es.length) ux) (hfs:fs≠[]) (hY:VR s.length w γ (.sl c' i.size fs) uy):
 ∃u w' γ',(Builtin.append_ #[t,t] ty #[ux,uy]).run P w= .ok u w'∧VR s.length w' γ' (.asl d l i.size (es.length+fs.length) 0 (es.length+fs.length)) u∧SR K (sput s d l (.harr lo i.size (es ++fs))) w' γ'∧Ext s.length w γ w' γ':=by
 have hmax:es.length+fs.length≤maxLen:=by simp only[maxLen];omega
 have h63:((es.length+fs.length:Nat):Int)≤9223372036854775807:=by omega
 have hm:0<fs.length:=List.length_pos_iff.2 hfs
 obtain⟨f,c,el,h1,rfl,hes,h0,hlo,h4,h5,h6,h7,h2⟩:=harr_shape hS hg hX
 obtain⟨b,hbd⟩: ∃b,b=(f es.length).1:=⟨_,rfl⟩
 obtain⟨k,hk⟩: ∃k,k=(f es.length).2:=⟨_,rfl⟩
 have hfb:f es.length=(b,k):=by rw[hbd,hk]
 rw[←hbd]at h4⊢
 rw[←hk]at h5 h6 h7⊢
 rcases hY.sl_inv with ⟨_,_,_,e0,_⟩|⟨b2,off2,cap2,news,rfl,hfz,hfp,hle2,_,hln,hrn,_⟩
 ·exact absurd e0 hfs
 have lnews:news.length=fs.length*i.size:=by rw[←hln.1,flatten_len fs hfz]
 have hln':LR (d+1) w γ fs.flatten news:=⟨hln.1,fun i v u hv hu=>(hln.2 i v u hv hu).pure' _ (by
  obtain⟨cs,hc,hv⟩:=List.mem_flatten.1 (List.mem_of_getElem? hv)
  exact(elemAll_mem (hfp cs hc) v hv).1)⟩
 have hfz': ∀cs∈fs,cs.length=i.size∧V.elemAll cs=true:=fun cs h=>⟨hfz cs h,hfp cs h⟩
 by_cases hroom:es.length+fs.length≤k
 ·have hfit:es.length*i.size+news.length≤c.size:=by rw[lnews,h5,←Nat.add_mul];exact Nat.mul_le_mul_right _ hroom
  have hst:=run_storeCells_at P b (es.length*i.size) el news 0 c w h4 (by simpa using hfit) (hln.one (fun v hv=>by
   obtain⟨cs,hcs1,hv1⟩:=List.mem_flatten.1 hv
   exact(elemAll_mem (hfp cs hcs1) v hv1).2))
  simp only[Nat.add_zero]at hst
  have hf:=run_firstCells_some (P:=P) w i.size fs.length ⟨b2,off2,none⟩ fs.length cap2 news lnews hrn.add
  obtain⟨γ',k1,k2,k3⟩:=hroom_ok hS hg h1 hfb h4 hroom hm hfz' hln'
  refine⟨_,_,γ',?_,k1,k2,k3⟩
  simp[Builtin.append_,run_underlying ht,sizeOf,typeInfo,hi,Builtin.lenOf,hroom,hf,Addr.add_lit,hst]
 ·have hlt:k<es.length+fs.length:=by omega
  have hesz: ∀cs∈es,cs.length=i.size:=fun cs h=>(hes cs h).1
  have hol:LR (d+1) w γ es.flatten (c.toList.take (es.length*i.size)):=by
   have hfl:=flatten_len es hesz
   have hsize:es.length*i.size≤c.size:=by rw[h5];exact Nat.mul_le_mul_right _ h7
   refine⟨by rw[hfl];simp;omega,fun x v u hv hu=> ?_⟩
   have hx:x<es.length*i.size:=by rw[←hfl];exact(List.getElem?_eq_some_iff.1 hv).1
   rw[List.getElem?_take,if_pos hx]at hu
   have hx':x=x/i.size*i.size+x%i.size:=by rw[Nat.mul_comm,Nat.div_add_mod]
   have hm2:=Nat.mod_lt x h0
   rw[hx']at hv hu
   rw[flatten_get _ hesz _ _ hm2]at hv
   obtain⟨cs,q1,q2⟩:=Option.bind_eq_some_iff.1 hv
   obtain⟨u',q3,q4⟩:=(h2 es.length hlo (Nat.le_refl _)).2.2 _ cs _ v (List.getElem?_eq_some_iff.1 q1).1 q1 q2
   rw[hfb,cell_of_row _ b _ c el (0,0) h4]at q3
   have:c[x/i.size*i.size+x%i.size]? =some u:=by simpa using hu
   rw[this]at q3
   cases q3
   exact q4
  have lus:(c.toList.take (es.length*i.size)).length=es.length*i.size:=by rw[←hol.1,flatten_len es hesz]
  have hro:RD w b 0 (c.toList.take (es.length*i.size)):=by
   intro j u hu
   rw[List.getElem?_take]at hu
   split at hu
   ·rw[Nat.zero_add,cell_of_row w b j c el (0,0) h4];simpa using hu
   ·cases hu
  have hr:=run_append_grow (P:=P) w t ty e i z ht hi hz ⟨b,0,none⟩ es.length k _ lus hro.add ⟨b2,off2,none⟩ fs.length cap2 news lnews hrn.add hlt h63 (growslice_fits hlt hb)
  have hge:=grownCap_ge w (es.length+fs.length) k e
  have hle:=grownCap_le_maxLen w (es.length+fs.length) k e hmax
  obtain⟨γ',k1,k2,k3⟩:=hgrow_ok hS hg (cap:=grownCap w (es.length+fs.length) k e) (el:=e) (z:=z.cells) hzs hge hle hm hfz' hol hln'
  exact⟨_,_,γ',hr,k1,k2,k3⟩
theorem fill_litM(hE:ER s.length w γ e a) {el:TypeId} {n:Nat}:
 ∀ {ps:List (Nat×Operand)} {qs:List (Nat×Opd)},partsL P el ps=some qs→ ∀ {es es':List (List V)} {ds:Array Value},litAllM e n qs es=some es'→(∀cs∈es,cs.length=n)→LR s.length w γ es.flatten ds.toList→
  ∃ds',Instr.fill (fun i=>some (i*n,n)) ds (ps.map fun x=>(x.1,a.eval x.2))=some ds'∧LR s.length w γ es'.flatten ds'.toList∧(∀cs∈es',cs.length=n)∧es'.length=es.length
 |[],qs,h,es,es',ds,hf,hz,hd=>by simp[partsL]at h;subst h;simp[litAllM]at hf;subst hf;exact⟨ds,rfl,hd,hz,rfl⟩
 |(i,x)::r,qs,h,es,es',ds,hf,hz,hd=>by
   unfold partsL at h
   split at h
   ·rename_i y r' h1 h2
    cases h
    simp only[litAllM]at hf
    split at hf
    ·rename_i hc
     simp only[Bool.and_eq_true,decide_eq_true_eq]at hc
     obtain⟨⟨hlen,hel⟩,hi⟩:=hc
     have hdef:(y.ev e).isDef=true:=by
      cases hy:y.ev e with
      |undef=>rw[hy]at hel;simp[V.cells,V.oneAll,V.one]at hel
      |skip=>rw[hy]at hel;simp[V.cells,V.oneAll,V.one]at hel
      |_=>rfl
     have hv:=(hE.opdT h1).cells hdef
     have hfl:=flatten_len es hz
     have hle:i*n+n≤es.flatten.length:=by
      have:(i+1)*n≤es.length*n:=Nat.mul_le_mul_right _ hi
      rw[hfl];rw[Nat.add_mul]at this;omega
     obtain⟨ds1,e1,hd1⟩:=fill_step (place:=fun i=>some (i*n,n)) (i:=i) rfl hv hlen hd hle (r.map fun x=>(x.1,a.eval x.2))
     rw[flatten_set es i _ hz hlen hi]at hd1
     obtain⟨ds2,e2,hd2,hz2,hl2⟩:=fill_litM hE h2 hf (fun cs hcs=>by
      rcases List.mem_or_eq_of_mem_set hcs with h|h
      ·exact hz cs h
      ·rw[h];exact hlen) hd1
     exact⟨ds2,by simp only[List.map_cons];rw[e1,e2],hd2,hz2,by simpa using hl2⟩
    ·cases hf
   ·cases h
theorem litm_ok(hS:SR K s w γ)(hE:ER s.length w γ e a) {t el:TypeId} {len:Nat} {ps:Array (Nat×Operand)} {z:List V} {qs:List (Nat×Opd)}(hu:P.underlying t=some (.slice el))(hz:zeroT P el=some z)(hq:partsL P el ps.toList=some qs)
 (h0:0<z.length) (hsmall:len*z.length≤4096) (hsz:sizeT P el=some z.length) {lab:Nat} {v:V} {f:Eff} (hv:aop (.litm z len qs) lab e s=some (v,f)):
 OpOk K s w γ ((do pure (Next.value (←Instr.buildSlice t len (ps.map fun(i,x)=>(i,a.eval x)))):Sem Next).run P w) v f:=by
 have hps:(ps.map fun(i,x)=>(i,a.eval x)).toList=ps.toList.map fun x=>(x.1,a.eval x.2):=by simp
 simp only[aop]at hv
 split at hv
 rotate_left
 ·cases hv
 rename_i hc
 obtain⟨_,hn,hne,hlp⟩:=hc
 obtain⟨es,hes,hv⟩:=Option.map_eq_some_iff.1 hv
 cases hv
 obtain⟨i,zv,hi,hz',hl,_⟩:=zeroT_ok hz s.length w γ
 have hisz:i.size=z.length:=by unfold sizeT at hsz;rw[hi]at hsz;simpa using hsz
 have hzl:zv.cells.size=z.length:=by have:=hl.1;simpa using this.symm
 have hrep: ∀cs∈List.replicate len z,cs.length=z.length:=fun cs h=>by rw[List.eq_of_mem_replicate h]
 obtain⟨ds0,hds0⟩: ∃ds0,ds0=((Array.range (len*i.size)).map (zv.cells[· %zv.cells.size]!)):=⟨_,rfl⟩
 have hl0:LR s.length w γ (List.replicate len z).flatten ds0.toList:=by
  have hfl:=flatten_len _ hrep
  simp only[List.length_replicate]at hfl
  refine⟨by rw[hfl,hds0,hisz];simp,fun k x u hx hu=> ?_⟩
  have hk:k<len*z.length:=by rw[←hfl];exact(List.getElem?_eq_some_iff.1 hx).1
  have hkm:k%z.length<z.length:=Nat.mod_lt _ h0
  have hkd:k/z.length<len:=by rw[Nat.div_lt_iff_lt_mul h0];exact hk
  rw[show k=k/z.length*z.length+k%z.length by rw[Nat.mul_comm,Nat.div_add_mod],flatten_get _ hrep _ _ hkm]at hx
  rw[List.getElem?_replicate,if_pos hkd]at hx
  rw[hds0,hisz]at hu
  simp only[Array.getElem?_toList,Array.getElem?_map,Array.getElem?_range,hk,if_true,Option.map_some,Option.some.injEq,hzl]at hu
  refine hl.2 (k%z.length) x u hx ?_
  rw[←hu]
  have:k%z.length<zv.cells.size:=by rw[hzl];exact hkm
  simp[this]
 obtain⟨ds,hf,hd,hz2,hl2⟩:=fill_litM (P:=P) hE hq (ds:=ds0) hes hrep hl0
 have hlen:es.length=len:=by simpa using hl2
 have hrun:(Instr.buildSlice t len (ps.map fun(i,x)=>(i,a.eval x))).run P w= .ok (.slice (some ⟨w.heap.size,0,none⟩) len len) (w.alloc (.cells ds el)):=by
  have hpos: ¬len*i.size=0:=by
   rw[hisz];intro h;rcases Nat.mul_eq_zero.1 h with h|h<;>omega
  have hf':Instr.fill (fun i_1=>some (i_1*i.size,i.size)) ds0 (ps.map fun(i,x)=>(i,a.eval x)).toList=some ds:=by rw[hps,hisz];exact hf
  rw[hds0]at hf'
  have hgt: ¬len*i.size>2^24:=by rw[hisz];omega
  simp only[Instr.buildSlice,Sem.run_bind,run_underlying hu,Result.andThen_ok,sizeOf,typeInfo,run_program,hi,Sem.run_pure,hgt,if_false,hpos,zeroValue,hz',hf',newRow,run_newObj]
  rfl
 simp only[Sem.run_bind,hrun,Result.andThen_ok,Sem.run_pure]
 have hdl:ds.size=es.length*z.length:=by
  have:=hd.1
  rw[flatten_len es hz2]at this
  simpa using this.symm
 have hmx:es.length≤maxLen:=by
  have:len≤len*z.length:=Nat.le_mul_of_pos_right _ h0
  simp only[maxLen];omega
 obtain⟨γ',k1,k2,k3⟩:=arr_new (K:=K) hS hne (by simpa using hn) (fun γ'=>Ext.refl _ w γ') rfl hz2 h0 (row:=ds) hdl (Nat.le_refl _) hmx hd (fun j u hu=>by simpa using hu) el
 rw[hlen]at k1
 exact⟨_,_,γ', .inl rfl,k1,k2,k3⟩
end
end Go.Ab

/-
  Operations: arrays that the frame owns.
-/
import Derived.Test.YtnglkclmplfnpaaGreatAb2
import Derived.Laws.MakeOwn
import Derived.MapKept
import Derived.RangeFuncRecord
import Derived.ChangeKeysEq
set_option linter.unusedSimpArgs false
set_option linter.unusedVariables false
namespace Go.Ab
section
variable {K : KK} {s : Stk} {w : World} {γ : G} {P : Program}
theorem arr_new(hS:SR K s w γ)(hs:s≠[]) {lab:Nat}(hn:sget s (dep s) lab=none) {w1:World}(hx1: ∀γ',Ext s.length w γ' w1 γ')(hh:w1.heap=w.heap) {es:List (List V)} {sz k:Nat}(hsz: ∀cs,cs∈es→cs.length=sz)(h0:0<sz)
 {row:Array Value} (hrow:row.size=k*sz) (hk:es.length≤k) (hmax:k≤maxLen) {us:List Value} (hl:LR s.length w γ es.flatten us) (hr: ∀(j:Nat) u,us[j]? =some u→row[j]? =some u) (el:TypeId):
 ∃γ',VR s.length (w1.alloc (.cells row el)) γ' (.asl (dep s) lab sz es.length 0 es.length) (.slice (some ⟨w.heap.size,0,none⟩) es.length k)∧
  SR K (sput s (dep s) lab (.arr sz es)) (w1.alloc (.cells row el)) γ'∧Ext s.length w γ (w1.alloc (.cells row el)) γ':=by
 have hd:=dep_succ hs
 obtain⟨g,hg⟩: ∃g:GE,g= .arr es.length (some (w.heap.size,sz,k)):=⟨_,rfl⟩
 have hx0:Ext s.length w γ w (γ.set (dep s) lab g):=Ext.name _ w γ (hS.none _ _ hn) (fun b off h=>by rw[hg]at h;simp[GE.owns]at h;omega)
 have hx:=(hx0.trans (hx1 _)).trans (Ext.alloc s.length w1 (γ.set (dep s) lab g) (.cells row el) (by rw[hh];exact hS.frn_set _ _ _))
 have hblk:(w1.alloc (.cells row el)).heap[w.heap.size]? =some (.cells row el (0,0)):=by
  have:=heap_alloc_new w1 (.cells row el)
  rwa [hh]at this
 have hvr:VR s.length (w1.alloc (.cells row el)) (γ.set (dep s) lab g) (.asl (dep s) lab sz es.length 0 es.length) (.slice (some ⟨w.heap.size,0*sz,none⟩) es.length (k-0)):= .asl _ _ _ _ _ _ _ _ (by omega) (by rw[G.set_same,hg]) (by omega) hk
 rw[Nat.zero_mul,Nat.sub_zero]at hvr
 refine⟨γ.set (dep s) lab g,hvr,hS.step (by omega) hx rfl ⟨some (w.heap.size,sz,k),by rw[G.set_same,hg],hsz,rfl,row,el,hblk,hk,hrow,h0,hmax,?_⟩ ?_ ?_,hx⟩
 ·intro i cs j v u h1 h2 h3
  rw[hd]
  have hj:j<sz:=by rw[←hsz cs (List.mem_of_getElem? h1)];exact(List.getElem?_eq_some_iff.1 h2).1
  have hf:es.flatten[i*sz+j]? =some v:=by rw[flatten_get es hsz i j hj,h1];exact h2
  have hlt:i*sz+j<us.length:=by rw[←hl.1];exact(List.getElem?_eq_some_iff.1 hf).1
  have:=hr (i*sz+j) us[i*sz+j] (by simp)
  rw[h3]at this;cases this
  exact(hl.2 _ v us[i*sz+j] hf (by simp)).ext hx
 ·intro d' l' g' b _ hg' hb
  have:=heap_alloc_old w1 (.cells row el) b (by rw[hh];exact hS.blk_lt hg' hb)
  rw[this,hh]
 ·intro b hb d' l' g' _ hg' hb'
  rw[hg]at hb;simp[GE.blk]at hb
  have:=hS.blk_lt hg' hb'
  omega
theorem arr_none(hS:SR K s w γ)(hs:s≠[]) {lab:Nat}(hn:sget s (dep s) lab=none)(sz:Nat)(base:Option Addr):
 ∃γ',VR s.length w γ' (.asl (dep s) lab sz 0 0 0) (.slice base 0 0)∧SR K (sput s (dep s) lab (.arr sz [])) w γ'∧Ext s.length w γ w γ':=by
 have hd:=dep_succ hs
 have hx:Ext s.length w γ w (γ.set (dep s) lab (.arr 0 none)):=Ext.name _ w γ (hS.none _ _ hn) (fun b off h=>h.elim)
 exact⟨_, .aslnil _ _ _ base (by omega) (G.set_same _ _ _ _),hS.step (by omega) hx rfl ⟨none,G.set_same _ _ _ _,by simp,rfl⟩ (fun _ _ _ _ _ _ _=>rfl) (fun b hb=>by simp[GE.blk]at hb),hx⟩
theorem replicate_flatten_get {α:Type}(z:List α)(n j:Nat)(h:j<n*z.length):((List.replicate n z).flatten)[j]? =z[j%z.length]? :=by
 induction n generalizing j with
 |zero=>simp at h
 |succ n ih=>
   rw[List.replicate_succ,List.flatten_cons]
   by_cases hj:j<z.length
   ·rw[List.getElem?_append_left hj,Nat.mod_eq_of_lt hj]
   ·rw[List.getElem?_append_right (by omega),ih _ (by rw[Nat.add_mul]at h;omega)]
    congr 1
    exact(Nat.mod_eq_sub_mod (by omega)).symm
theorem mksl_ok(hS:SR K s w γ)(hs:s≠[]) {lab:Nat}(hn:sget s (dep s) lab=none) {t el:TypeId} {i:TypeInfo} {z:List V}(ht:P.underlying t=some (.slice el))(hz:zeroT P el=some z)(hi:P.info? el=some i)(h0:0<z.length)(hsz:i.size=z.length)
 {n:Int} (hn0:0≤n) (hn1:n<140737488355328) (hb:n*i.bytes≤140737488355328) (k1 k2:IntKind):
 ∃u w' γ',(Instr.makeSlice t (.int k1 n) (.int k2 n)).run P w= .ok u w'∧VR s.length w' γ' (.asl (dep s) lab z.length n.toNat 0 n.toNat) u∧
  SR K (sput s (dep s) lab (.arr z.length (List.replicate n.toNat z))) w' γ'∧Ext s.length w γ w' γ':=by
 obtain⟨i',zv,hi',hz',hl,_⟩:=zeroT_ok hz s.length w γ
 rw[hi]at hi';cases hi'
 have hzl:zv.cells.size=z.length:=by simpa using hl.1.symm
 have hrun:=run_make (P:=P) w t el i zv ht hi hz' k1 k2 n n hn0 (Int.le_refl _) (by rw[Int.mul_comm];omega) (by omega)
 have hA:LR s.length w γ (List.replicate n.toNat z).flatten (List.replicate n.toNat zv.cells.toList).flatten:=by
  refine⟨by simp[hzl],fun j v u hv hu=> ?_⟩
  have hj:j<n.toNat*z.length:=by have:=(List.getElem?_eq_some_iff.1 hv).1;simpa using this
  rw[replicate_flatten_get _ _ _ hj]at hv
  rw[replicate_flatten_get _ _ _ (by simpa [hzl]using hj)]at hu
  have e:zv.cells.toList.length=z.length:=by simpa using hzl
  rw[e]at hu
  exact hl.2 _ v u hv hu
 have hB: ∀(j:Nat) u,(List.replicate n.toNat zv.cells.toList).flatten[j]? =some u→(madeCells zv.cells (n.toNat*i.size))[j]? =some u:=by
  intro j u hu
  have hj:j<n.toNat*zv.cells.toList.length:=by have:=(List.getElem?_eq_some_iff.1 hu).1;simpa using this
  rw[replicate_flatten_get _ _ _ hj]at hu
  have hj':j<n.toNat*i.size:=by rw[hsz,←hzl];simpa using hj
  have hm:j%zv.cells.size<zv.cells.size:=Nat.mod_lt _ (by omega)
  have hj2:(Array.range (n.toNat*i.size))[j]? =some j:=by simp[hj']
  simp only[madeCells,Array.getElem?_map,hj2,Option.map_some]
  simp at hu
  rw[getElem!_pos zv.cells (j%zv.cells.size) hm,Option.some.injEq]
  simpa [hm]using hu
 obtain⟨γ',h1,h2,h3⟩:=arr_new hS hs hn (fun γ'=>Ext.refl _ w γ') rfl (es:=List.replicate n.toNat z) (sz:=z.length) (k:=n.toNat) (fun cs hc=>by rw[(List.mem_replicate.1 hc).2]) h0
  (row:=madeCells zv.cells (n.toNat*i.size)) (by rw[size_madeCells,hsz]) (by simp) (by simp only[maxLen];omega) hA hB el
 rw[List.length_replicate]at h1
 exact⟨_,_,γ',hrun,h1,h2,h3⟩
theorem appm_ok(hS:SR K s w γ)(hs:s≠[]) {lab:Nat}(hn:sget s (dep s) lab=none) {t e:TypeId} {i:TypeInfo} {z:Value}(ty:TypeId)(ht:P.underlying t=some (.slice e))(hi:P.info? e=some i)(hz:i.zero=some z)(h0:0<i.size)(hzs:z.cells.size=i.size)
 {sz:Nat} {ux uy:Value} {fs:List (List V)} (hb:fs.length*i.bytes≤140737488355328) (hl:fs.length<140737488355328) (hX:VR s.length w γ (.sl .full sz []) ux)
 (hY:((uy= .slice none 0 0∨ ∃a c,uy= .slice (some a) 0 c)∧fs=[])∨ ∃b off cap us,uy= .slice (some ⟨b,off,none⟩) fs.length cap∧(∀cs,cs∈fs→cs.length=i.size)∧LR s.length w γ fs.flatten us∧RD w b off us):
 ∃u w' γ',(Builtin.append_ #[t,t] ty #[ux,uy]).run P w= .ok u w'∧VR s.length w' γ' (.asl (dep s) lab i.size fs.length 0 fs.length) u∧SR K (sput s (dep s) lab (.arr i.size fs)) w' γ'∧Ext s.length w γ w' γ':=by
 have hmax:fs.length≤maxLen:=by simp only[maxLen];omega
 have h63:((fs.length:Nat):Int)≤9223372036854775807:=by omega
 have shX: ∃base,ux= .slice base 0 0:=by
  rcases hX.sl_inv with ⟨base,cap,rfl,_,hco,_⟩|⟨b,off,cap,us,rfl,_,_,_,hco,_⟩
  ·have:cap=0:=hco
   subst this
   exact⟨_,rfl⟩
  ·have:cap=0:=hco
   subst this
   exact⟨_,rfl⟩
 obtain⟨base,rfl⟩:=shX
 by_cases hfs:fs=[]
 ·subst hfs
  have hy:uy= .slice none 0 0∨ ∃a c,uy= .slice (some a) 0 c:=by
   rcases hY with ⟨h,_⟩|⟨b,off,cap,us,rfl,_⟩
   ·exact h
   ·exact .inr ⟨_,_,rfl⟩
  obtain⟨γ',h1,h2,h3⟩:=arr_none hS hs hn i.size base
  exact⟨_,w,γ',run_append_empty (w:=w) ty ht hi base 0 0 (Nat.le_refl _) (fun _=>rfl) uy hy,h1,h2,h3⟩
 ·have hm:0<fs.length:=List.length_pos_iff.2 hfs
  rcases hY with ⟨_,e0⟩|⟨b2,off2,cap2,news,rfl,hfz,hln,hrn⟩
  ·exact absurd e0 hfs
  have lnews:news.length=fs.length*i.size:=by rw[←hln.1,flatten_len fs hfz]
  have key: ∀(cap:Nat),fs.length≤cap→cap≤maxLen→ ∃γ',VR s.length (w.drew.alloc (.cells (news.toArray ++Builtin.zeroCells z.cells (cap-fs.length)) e)) γ' (.asl (dep s) lab i.size fs.length 0 fs.length) (.slice (some ⟨w.heap.size,0,none⟩) fs.length cap)∧
   SR K (sput s (dep s) lab (.arr i.size fs)) (w.drew.alloc (.cells (news.toArray ++Builtin.zeroCells z.cells (cap-fs.length)) e)) γ'∧Ext s.length w γ (w.drew.alloc (.cells (news.toArray ++Builtin.zeroCells z.cells (cap-fs.length)) e)) γ':=by
   intro cap hge hle
   refine arr_new hS hs hn (fun γ'=>Ext.drew _ w γ') rfl hfz h0 ?_ hge hle hln ?_ e
   ·simp only[Array.size_append,List.size_toArray,zeroCells_size,lnews,hzs,←Nat.add_mul];congr 1;omega
   ·intro j u hu
    have hj:=(List.getElem?_eq_some_iff.1 hu).1
    rw[Array.getElem?_append_left (by simpa using hj)]
    simpa using hu
  rcases base with _|a
  ·have hr:=run_append_nil (P:=P) w t ty e i z ht hi hz ⟨b2,off2,none⟩ fs.length cap2 news lnews hrn.add hm h63 (by omega)
   obtain⟨γ',h1,h2,h3⟩:=key (grownCap w fs.length 0 e) (grownCap_ge w fs.length 0 e) (grownCap_le_maxLen w fs.length 0 e hmax)
   exact⟨_,_,γ',hr,h1,h2,h3⟩
  ·have hr:=run_append_grow (P:=P) w t ty e i z ht hi hz a 0 0 [] (by simp) (fun j u hu=>by simp at hu) ⟨b2,off2,none⟩ fs.length cap2 news lnews hrn.add (by omega) (by omega) (growslice_fits (by omega) (by rw[Nat.zero_add];exact hb))
   simp only[Nat.zero_add,Array.empty_append]at hr
   obtain⟨γ',h1,h2,h3⟩:=key (grownCap w fs.length 0 e) (grownCap_ge w fs.length 0 e) (grownCap_le_maxLen w fs.length 0 e hmax)
   exact⟨_,_,γ',hr,h1,h2,h3⟩
theorem agrow_ok(hS:SR K s w γ) {d l sz:Nat} {es fs:List (List V)} {cap:Nat} {olds news:List Value} {el:TypeId} {z:Array Value}
 (hg:sget s d l=some (.arr sz es)) (hz:z.size=sz) (h0:0<sz) (hcap:es.length+fs.length≤cap) (hmax:cap≤maxLen) (hpos:0<fs.length)
 (hfs: ∀cs∈fs,cs.length=sz) (hlo:LR (d+1) w γ es.flatten olds) (hln:LR (d+1) w γ fs.flatten news):
 ∃γ',VR s.length (w.drew.alloc (.cells (olds.toArray ++news.toArray ++Builtin.zeroCells z (cap-(es.length+fs.length))) el)) γ' (.asl d l sz (es.length+fs.length) 0 (es.length+fs.length)) (.slice (some ⟨w.heap.size,0,none⟩) (es.length+fs.length) cap)∧
  SR K (sput s d l (.arr sz (es ++fs))) (w.drew.alloc (.cells (olds.toArray ++news.toArray ++Builtin.zeroCells z (cap-(es.length+fs.length))) el)) γ'∧
  Ext s.length w γ (w.drew.alloc (.cells (olds.toArray ++news.toArray ++Builtin.zeroCells z (cap-(es.length+fs.length))) el)) γ':=by
 obtain⟨row,hrow⟩: ∃row,row=olds.toArray ++news.toArray ++Builtin.zeroCells z (cap-(es.length+fs.length)):=⟨_,rfl⟩
 rw[←hrow]
 obtain⟨blk,h1,hes,_⟩:=hS.ent d l _ hg
 have hd:d<s.length:=hS.lt h1
 have lo:olds.length=es.length*sz:=by rw[←hlo.1,flatten_len es hes]
 have ln:news.length=fs.length*sz:=by rw[←hln.1,flatten_len fs hfs]
 have hsize:row.size=cap*sz:=by
  rw[hrow];simp only[Array.size_append,List.size_toArray,zeroCells_size,lo,ln,hz,←Nat.add_mul];congr 1;omega
 obtain⟨g,hgd⟩: ∃g:GE,g= .arr (es.length+fs.length) (some (w.heap.size,sz,cap)):=⟨_,rfl⟩
 have hx1:Ext s.length w γ w (γ.set d l g):=by
  refine⟨rfl,rfl,rfl,Nat.le_refl _,Nat.le_refl _,?_,?_,?_,?_,?_,fun _ _ _ h _=>h,?_,fun _ _ _=>rfl,fun _=>G.set_none _ _ _ _ _,fun _ _ _ _ _=>rfl⟩
  ·intro d' l' b _ h
   rw[G.set_other γ g];exact h
   rintro⟨rfl,rfl⟩
   rw[h1]at h;cases h
  ·intro d' l' b _ h
   rw[G.set_other γ g];exact h
   rintro⟨rfl,rfl⟩
   rw[h1]at h;cases h
  ·intro d' l' n' blk' _ h
   by_cases e:d'=d∧l'=l
   ·obtain⟨rfl,rfl⟩:=e
    rw[h1]at h;cases h
    exact⟨_,some (w.heap.size,sz,cap),by rw[G.set_same,hgd], .inr (by omega)⟩
   ·exact⟨n',blk',by rw[G.set_other γ g e];exact h, .inl ⟨rfl,rfl⟩⟩
  ·intro d' l' lo N _ f _ h
   refine⟨lo,N,f,?_,Nat.le_refl _,Nat.le_refl _,fun _ _ _=>rfl⟩
   rw[G.set_other γ g];exact h
   rintro⟨rfl,rfl⟩
   rw[h1]at h;cases h
  ·intro d' l' n' blk' _ h
   refine⟨n',blk',?_, .inl ⟨rfl,rfl⟩⟩
   rw[G.set_other γ g];exact h
   rintro⟨rfl,rfl⟩
   rw[h1]at h;cases h
  ·intro b off hlt hno ho
   rcases own_set ho with h|h
   ·rw[hgd]at h;simp[GE.owns]at h;omega
   ·exact hno h
 have hx:Ext s.length w γ (w.drew.alloc (.cells row el)) (γ.set d l g):=(hx1.trans (Ext.drew s.length w (γ.set d l g))).trans (Ext.alloc s.length w.drew (γ.set d l g) (.cells row el) (hS.frn_set _ _ _))
 have hblk:(w.drew.alloc (.cells row el)).heap[w.heap.size]? =some (.cells row el (0,0)):=heap_alloc_new w.drew _
 have hvr:VR s.length (w.drew.alloc (.cells row el)) (γ.set d l g) (.asl d l sz (es.length+fs.length) 0 (es.length+fs.length)) (.slice (some ⟨w.heap.size,0*sz,none⟩) (es.length+fs.length) (cap-0)):=
  .asl _ _ _ _ _ _ _ _ hd (by rw[G.set_same,hgd]) (by omega) hcap
 rw[Nat.zero_mul,Nat.sub_zero]at hvr
 have hsz: ∀cs,cs∈es ++fs→cs.length=sz:=fun cs h=>by
  rcases List.mem_append.1 h with h|h
  ·exact hes cs h
  ·exact hfs cs h
 refine⟨γ.set d l g,hvr,hS.step hd hx rfl ⟨some (w.heap.size,sz,cap),by rw[G.set_same,hgd,List.length_append],hsz,rfl,row,el,hblk,by rw[List.length_append];exact hcap,hsize,h0,hmax,?_⟩ ?_ ?_,hx⟩
 ·intro i cs j v u k1 k2 k3
  have hj:j<sz:=by rw[←hsz cs (List.mem_of_getElem? k1)];exact(List.getElem?_eq_some_iff.1 k2).1
  have hf:(es ++fs).flatten[i*sz+j]? =some v:=by rw[flatten_get _ hsz i j hj,k1];exact k2
  have hl:LR (d+1) w γ (es ++fs).flatten (olds ++news):=by rw[flatten_append'];exact hlo.append hln
  have hlt:i*sz+j<(olds ++news).length:=by rw[←hl.1];exact(List.getElem?_eq_some_iff.1 hf).1
  have hq:row[i*sz+j]? =(olds ++news)[i*sz+j]? :=by
   rw[hrow]
   simp only[←Array.getElem?_toList,Array.toList_append]
   rw[List.getElem?_append_left hlt]
  rw[hq]at k3
  exact(hl.2 _ v u hf k3).ext (hx.mono (by omega))
 ·intro d' l' g' b _ hg' hb
  exact heap_alloc_old w.drew _ b (by simpa using hS.blk_lt hg' hb)
 ·intro b hb d' l' g' _ hg' hb'
  rw[hgd]at hb;simp[GE.blk]at hb
  have:=hS.blk_lt hg' hb'
  omega
theorem aroom_ok(hS:SR K s w γ) {d l sz:Nat} {es fs:List (List V)} {b k:Nat} {c:Array Value} {el:TypeId} {news:List Value}
 (hg:sget s d l=some (.arr sz es)) (h1:γ d l=some (.arr es.length (some (b,sz,k)))) (hc:w.heap[b]? =some (.cells c el (0,0))) (hsize:c.size=k*sz) (h0:0<sz) (hcap:es.length+fs.length≤k) (hmax:k≤maxLen) (hpos:0<fs.length)
 (hes: ∀cs∈es,cs.length=sz) (hfs: ∀cs∈fs,cs.length=sz) (hold: ∀(i:Nat) cs (j:Nat) v u,es[i]? =some cs→cs[j]? =some v→c[i*sz+j]? =some u→VR (d+1) w γ v u) (hln:LR (d+1) w γ fs.flatten news):
 ∃γ',VR s.length (w.setRow b (c.toList.take (es.length*sz) ++news ++c.toList.drop (es.length*sz+news.length)).toArray) γ' (.asl d l sz (es.length+fs.length) 0 (es.length+fs.length)) (.slice (some ⟨b,0,none⟩) (es.length+fs.length) k)∧
  SR K (sput s d l (.arr sz (es ++fs))) (w.setRow b (c.toList.take (es.length*sz) ++news ++c.toList.drop (es.length*sz+news.length)).toArray) γ'∧
  Ext s.length w γ (w.setRow b (c.toList.take (es.length*sz) ++news ++c.toList.drop (es.length*sz+news.length)).toArray) γ':=by
 obtain⟨row,hrow⟩: ∃row,row=c.toList.take (es.length*sz) ++news ++c.toList.drop (es.length*sz+news.length):=⟨_,rfl⟩
 rw[←hrow]
 have hd:d<s.length:=hS.lt h1
 have ln:news.length=fs.length*sz:=by rw[←hln.1,flatten_len fs hfs]
 have hfit:es.length*sz+fs.length*sz≤c.size:=by rw[hsize,←Nat.add_mul];exact Nat.mul_le_mul_right _ hcap
 have hcl:c.toList.length=c.size:=Array.length_toList
 have hrs:row.toArray.size=k*sz:=by
  rw[hrow];simp only[List.size_toArray,List.length_append,List.length_take,List.length_drop,hcl,ln];omega
 have hget: ∀x,row.toArray[x]? =if es.length*sz≤x∧x<es.length*sz+news.length then news[x-es.length*sz]? else c[x]? :=by
  intro x
  rw[hrow,List.getElem?_toArray,splice_get _ _ _ (by omega)]
  simp
 have hown: ∀o,Own γ b o:=fun o=>⟨d,l,_,h1,rfl⟩
 obtain⟨g',hgd⟩: ∃g:GE,g= .arr (es.length+fs.length) (some (b,sz,k)):=⟨_,rfl⟩
 have hx:Ext s.length w γ (w.setRow b row.toArray) (γ.set d l g'):=
  Ext.setRow s.length h1 rfl (fun b' off h=>by rw[hgd]at h;simp only[GE.owns]at h⊢;exact h) hc (fun off u hno _=>absurd (hown off) hno) ⟨0,rfl⟩ (hS.notfrn h1 rfl) (fun _ h=>by cases h) (fun _ h=>by cases h)
   (fun _ _ h=>by cases h) (fun n' blk h=>by cases h;exact⟨_,some (b,sz,k),hgd, .inr (by omega)⟩)
 have hblk:(w.setRow b row.toArray).heap[b]? =some (.cells row.toArray el (0,0)):=setRow_heap w b c _ el _ hc
 have hvr:VR s.length (w.setRow b row.toArray) (γ.set d l g') (.asl d l sz (es.length+fs.length) 0 (es.length+fs.length)) (.slice (some ⟨b,0*sz,none⟩) (es.length+fs.length) (k-0)):=
  .asl _ _ _ _ _ _ _ _ hd (by rw[G.set_same,hgd]) (by omega) hcap
 rw[Nat.zero_mul,Nat.sub_zero]at hvr
 have hsz: ∀cs,cs∈es ++fs→cs.length=sz:=fun cs h=>by
  rcases List.mem_append.1 h with h|h
  ·exact hes cs h
  ·exact hfs cs h
 refine⟨γ.set d l g',hvr,hS.step hd hx rfl ⟨some (b,sz,k),by rw[G.set_same,hgd,List.length_append],hsz,rfl,row.toArray,el,hblk,by rw[List.length_append];exact hcap,hrs,h0,hmax,?_⟩ ?_ ?_,hx⟩
 ·intro i cs j v u k1 k2 k3
  have hj:j<sz:=by rw[←hsz cs (List.mem_of_getElem? k1)];exact(List.getElem?_eq_some_iff.1 k2).1
  rw[hget]at k3
  by_cases hi:i<es.length
  ·rw[List.getElem?_append_left hi]at k1
   have:i*sz+j<es.length*sz:=by
    have:=Nat.mul_le_mul_right sz (show i+1≤es.length by omega)
    rw[Nat.add_mul]at this;omega
   rw[if_neg (by omega)]at k3
   exact(hold i cs j v u k1 k2 k3).ext (hx.mono (by omega))
  ·rw[List.getElem?_append_right (by omega)]at k1
   have hlt:i-es.length<fs.length:=(List.getElem?_eq_some_iff.1 k1).1
   have hf:fs.flatten[(i-es.length)*sz+j]? =some v:=by rw[flatten_get _ hfs _ j hj,k1];exact k2
   have e1:i*sz+j=es.length*sz+((i-es.length)*sz+j):=by
    rw[←Nat.add_assoc,←Nat.add_mul];congr 2;omega
   have hlt2:(i-es.length)*sz+j<news.length:=by rw[←hln.1];exact(List.getElem?_eq_some_iff.1 hf).1
   rw[if_pos (by omega),show i*sz+j-es.length*sz=(i-es.length)*sz+j by omega]at k3
   exact(hln.2 _ v u hf k3).ext (hx.mono (by omega))
 ·intro d' l' g1 b1 hne hg1 hb1
  refine setRow_other w b b1 _ ?_
  rintro rfl
  exact hne (hS.inj d' l' g1 d l _ b1 hg1 h1 hb1 rfl)
 ·intro b1 hb1 d' l' g1 hne hg1 hb1'
  rw[hgd]at hb1;simp[GE.blk]at hb1;subst hb1
  exact hne (hS.inj d' l' g1 d l _ b hg1 h1 hb1' rfl)
theorem appa_ok(hS:SR K s w γ) {t e:TypeId} {i:TypeInfo} {z:Value}(ty:TypeId)(ht:P.underlying t=some (.slice e))(hi:P.info? e=some i)(hz:i.zero=some z)(h0:0<i.size)(hzs:z.cells.size=i.size)
 {d l:Nat} {es fs:List (List V)} {c':Cap} {sz':Nat} {ux uy:Value} (hb:(es.length+fs.length)*i.bytes≤140737488355328) (hl:es.length+fs.length<140737488355328) (hg:sget s d l=some (.arr i.size es))
 (hX:VR s.length w γ (.asl d l i.size es.length 0 es.length) ux) (hs2:sz'=i.size∨fs=[]) (hY:VR s.length w γ (.sl c' sz' fs) uy) {v:V} {f:Eff}
 (h:(if fs=[]then some (V.asl d l i.size es.length 0 es.length,(none:Eff))else some (.asl d l i.size (es.length+fs.length) 0 (es.length+fs.length),some (d,l, .arr i.size (es ++fs))))=some (v,f)):
 ∃u w' γ',(Builtin.append_ #[t,t] ty #[ux,uy]).run P w= .ok u w'∧VR s.length w' γ' v u∧SR K (seff s f) w' γ'∧Ext s.length w γ w' γ':=by
 have hmax:es.length+fs.length≤maxLen:=by simp only[maxLen];omega
 have h63:((es.length+fs.length:Nat):Int)≤9223372036854775807:=by omega
 obtain⟨blk,g1,hes,g2⟩:=hS.ent d l _ hg
 have hd:d<s.length:=hS.lt g1
 have shX:(∃base,ux= .slice base 0 0∧es=[]∧blk=none)∨ ∃b k,ux= .slice (some ⟨b,0,none⟩) es.length k∧blk=some (b,i.size,k):=by
  cases blk with
  |none=>
    subst g2
    cases hX with
    |asl _ _ _ _ _ _ b k _ hb' _ _=>rw[g1]at hb';cases hb'
    |aslnil _ _ _ base _ hb'=>exact .inl ⟨base,rfl,rfl,rfl⟩
    |aslold _ _ _ _ _ _ N blk _ _ _ _ hb' hn2=>rw[g1]at hb';cases hb';simp at hn2
    |aslh _ _ _ _ _ _ lo N f _ hb'=>rw[g1]at hb';cases hb'
    |aslho _ _ _ _ _ _ lo N sz' f _ _ _ _ hb'=>rw[g1]at hb';cases hb'
  |some y=>
    obtain⟨b,sz',k⟩:=y
    obtain⟨rfl,_⟩:=g2
    generalize hn:es.length=n at*
    cases hX with
    |asl _ _ _ _ _ _ b k _ hb' _ _=>
      rw[g1]at hb';cases hb'
      exact .inr ⟨b,k,by simp,rfl⟩
    |aslnil _ _ _ base _ hb'=>rw[g1]at hb';cases hb'
    |aslold _ _ _ _ _ _ N blk _ _ _ _ hb' hn2=>rw[g1]at hb';cases hb';omega
    |aslh _ _ _ _ _ _ lo N f _ hb'=>rw[g1]at hb';cases hb'
    |aslho _ _ _ _ _ _ lo N sz' f _ _ _ _ hb'=>rw[g1]at hb';cases hb'
 by_cases hfs:fs=[]
 ·rw[if_pos hfs]at h;cases h
  subst hfs
  have hy:uy= .slice none 0 0∨ ∃a c,uy= .slice (some a) 0 c:=by
   rcases hY.sl_inv with ⟨base,cap,rfl,_,_,hb0⟩|⟨b,off,cap,us,rfl,_⟩
   ·cases base with
    |none=>have:=hb0 rfl;subst this;exact .inl rfl
    |some a=>exact .inr ⟨_,_,rfl⟩
   ·exact .inr ⟨_,_,rfl⟩
  rcases shX with ⟨base,rfl,rfl,_⟩|⟨b,k,rfl,rfl⟩
  ·exact⟨_,w,γ,run_append_empty (w:=w) ty ht hi base 0 0 (Nat.le_refl _) (fun _=>rfl) uy hy,hX,hS,Ext.refl _ _ _⟩
  ·obtain⟨_,c,e',h3,h4,_⟩:=g2
   exact⟨_,w,γ,run_append_empty (w:=w) ty ht hi _ _ k h4 (fun h=>by cases h) uy hy,hX,hS,Ext.refl _ _ _⟩
 ·rw[if_neg hfs]at h;cases h
  have hm:0<fs.length:=List.length_pos_iff.2 hfs
  have hs2':sz'=i.size:=hs2.resolve_right hfs
  subst hs2'
  rcases hY.sl_inv with ⟨_,_,_,e0,_⟩|⟨b2,off2,cap2,news,rfl,hfz,hfp,hle2,_,hln,hrn,_⟩
  ·exact absurd e0 hfs
  have lnews:news.length=fs.length*i.size:=by rw[←hln.1,flatten_len fs hfz]
  have hln':LR (d+1) w γ fs.flatten news:=⟨hln.1,fun i v u hv hu=>(hln.2 i v u hv hu).pure' _ (by
   obtain⟨cs,hc,hv⟩:=List.mem_flatten.1 (List.mem_of_getElem? hv)
   exact(elemAll_mem (hfp cs hc) v hv).1)⟩
  rcases shX with ⟨base,rfl,rfl,rfl⟩|⟨b,k,rfl,rfl⟩
  ·have hge:=grownCap_ge w fs.length 0 e
   have hle:=grownCap_le_maxLen w fs.length 0 e (by simpa using hmax)
   obtain⟨γ',h1,h2,h3⟩:=agrow_ok hS hg (fs:=fs) (cap:=grownCap w fs.length 0 e) (olds:=[]) (news:=news) (el:=e) (z:=z.cells) hzs h0 (by simpa using hge) hle hm hfz LR.nil hln'
   simp only[List.length_nil,Nat.zero_add,List.nil_append,Array.empty_append]at h1 h2 h3 hb h63⊢
   rcases base with _|a
   ·have hr:=run_append_nil (P:=P) w t ty e i z ht hi hz ⟨b2,off2,none⟩ fs.length cap2 news lnews hrn.add hm h63 (by omega)
    exact⟨_,_,γ',hr,h1,h2,h3⟩
   ·have hr:=run_append_grow (P:=P) w t ty e i z ht hi hz a 0 0 [] (by simp) (fun j u hu=>by simp at hu) ⟨b2,off2,none⟩ fs.length cap2 news lnews hrn.add (by omega) (by omega) (growslice_fits (by omega) (by rw[Nat.zero_add];exact hb))
    simp only[Nat.zero_add,Array.empty_append]at hr
    exact⟨_,_,γ',hr,h1,h2,h3⟩
  ·obtain⟨_,c,el,h3,h4,h5,h6,h7,h8⟩:=g2
   by_cases hroom:es.length+fs.length≤k
   ·have hfit:es.length*i.size+news.length≤c.size:=by rw[lnews,h5,←Nat.add_mul];exact Nat.mul_le_mul_right _ hroom
    have hst:=run_storeCells_at P b (es.length*i.size) el news 0 c w h3 (by simpa using hfit) (hln.one (fun v hv=>by
     obtain⟨cs,hcs1,hv1⟩:=List.mem_flatten.1 hv
     exact(elemAll_mem (hfp cs hcs1) v hv1).2))
    simp only[Nat.add_zero]at hst
    have hf:=run_firstCells_some (P:=P) w i.size fs.length ⟨b2,off2,none⟩ fs.length cap2 news lnews hrn.add
    obtain⟨γ',k1,k2,k3⟩:=aroom_ok hS hg g1 h3 h5 h0 hroom h7 hm hes hfz h8 hln'
    refine⟨_,_,γ',?_,k1,k2,k3⟩
    simp[Builtin.append_,run_underlying ht,sizeOf,typeInfo,hi,Builtin.lenOf,hroom,hf,Addr.add_lit,hst]
   ·have hlt:k<es.length+fs.length:=by omega
    have hol:LR (d+1) w γ es.flatten (c.toList.take (es.length*i.size)):=by
     have hfl:=flatten_len es hes
     have hsize:es.length*i.size≤c.size:=by rw[h5];exact Nat.mul_le_mul_right _ h4
     refine⟨by rw[hfl];simp;omega,fun x v u hv hu=> ?_⟩
     have hx:x<es.length*i.size:=by rw[←hfl];exact(List.getElem?_eq_some_iff.1 hv).1
     rw[List.getElem?_take,if_pos hx]at hu
     have hx':x=x/i.size*i.size+x%i.size:=by rw[Nat.mul_comm,Nat.div_add_mod]
     have hm2:=Nat.mod_lt x h6
     rw[hx']at hv hu
     rw[flatten_get _ hes _ _ hm2]at hv
     obtain⟨cs,q1,q2⟩:=Option.bind_eq_some_iff.1 hv
     exact h8 _ cs _ v u q1 q2 (by simpa using hu)
    have lus:(c.toList.take (es.length*i.size)).length=es.length*i.size:=by rw[←hol.1,flatten_len es hes]
    have hro:RD w b 0 (c.toList.take (es.length*i.size)):=by
     intro j u hu
     rw[List.getElem?_take]at hu
     split at hu
     ·rw[Nat.zero_add,cell_of_row w b j c el (0,0) h3];simpa using hu
     ·cases hu
    have hr:=run_append_grow (P:=P) w t ty e i z ht hi hz ⟨b,0,none⟩ es.length k _ lus hro.add ⟨b2,off2,none⟩ fs.length cap2 news lnews hrn.add hlt h63 (growslice_fits hlt hb)
    have hge:=grownCap_ge w (es.length+fs.length) k e
    have hle:=grownCap_le_maxLen w (es.length+fs.length) k e hmax
    obtain⟨γ',k1,k2,k3⟩:=agrow_ok hS hg (cap:=grownCap w (es.length+fs.length) k e) (el:=e) (z:=z.cells) hzs h0 hge hle hm hfz hol hln'
    exact⟨_,_,γ',hr,k1,k2,k3⟩
end
end Go.Ab

/-
  Operations: literals in arrays that the frame owns; append to an array of what another array holds; append to an array that only grows.
-/
namespace Go.Ab
section
variable {K : KK} {P : Program} {s : Stk} {w : World} {γ : G} {e : Env} {a : Act}
theorem appg_ok(hS:SR K s w γ) {t e:TypeId} {i:TypeInfo} {z:Value}(ty:TypeId)(ht:P.underlying t=some (.slice e))(hi:P.info? e=some i)(hz:i.zero=some z)(h0:0<i.size)(hzs:z.cells.size=i.size)
 {d l:Nat} {es fs:List (List V)} {ux:Value} (hb:(es.length+fs.length)*i.bytes≤140737488355328) (hl:es.length+fs.length<140737488355328) (hg:sget s d l=some (.arr i.size es))
 (hX:VR s.length w γ (.asl d l i.size es.length 0 es.length) ux) (hm:0<fs.length) (hfz: ∀cs,cs∈fs→cs.length=i.size) {b2 off2 cap2:Nat} {news:List Value} (hln':LR (d+1) w γ fs.flatten news) (hrn:RD w b2 off2 news) (hone: ∀u∈news,u.oneCell'=true):
 ∃u w' γ',(Builtin.append_ #[t,t] ty #[ux, .slice (some ⟨b2,off2,none⟩) fs.length cap2]).run P w= .ok u w'∧VR s.length w' γ' (.asl d l i.size (es.length+fs.length) 0 (es.length+fs.length)) u∧SR K (sput s d l (.arr i.size (es ++fs))) w' γ'∧Ext s.length w γ w' γ':=by
 have hmax:es.length+fs.length≤maxLen:=by simp only[maxLen];omega
 have h63:((es.length+fs.length:Nat):Int)≤9223372036854775807:=by omega
 obtain⟨blk,g1,hes,g2⟩:=hS.ent d l _ hg
 have hd:d<s.length:=hS.lt g1
 have shX:(∃base,ux= .slice base 0 0∧es=[]∧blk=none)∨ ∃b k,ux= .slice (some ⟨b,0,none⟩) es.length k∧blk=some (b,i.size,k):=by
  cases blk with
  |none=>
    subst g2
    cases hX with
    |asl _ _ _ _ _ _ b k _ hb' _ _=>rw[g1]at hb';cases hb'
    |aslnil _ _ _ base _ hb'=>exact .inl ⟨base,rfl,rfl,rfl⟩
    |aslold _ _ _ _ _ _ N blk _ _ _ _ hb' hn2=>rw[g1]at hb';cases hb';simp at hn2
    |aslh _ _ _ _ _ _ lo N f _ hb'=>rw[g1]at hb';cases hb'
    |aslho _ _ _ _ _ _ lo N sz' f _ _ _ _ hb'=>rw[g1]at hb';cases hb'
  |some y=>
    obtain⟨b,sz',k⟩:=y
    obtain⟨rfl,_⟩:=g2
    generalize hn:es.length=n at*
    cases hX with
    |asl _ _ _ _ _ _ b k _ hb' _ _=>
      rw[g1]at hb';cases hb'
      exact .inr ⟨b,k,by simp,rfl⟩
    |aslnil _ _ _ base _ hb'=>rw[g1]at hb';cases hb'
    |aslold _ _ _ _ _ _ N blk _ _ _ _ hb' hn2=>rw[g1]at hb';cases hb';omega
    |aslh _ _ _ _ _ _ lo N f _ hb'=>rw[g1]at hb';cases hb'
    |aslho _ _ _ _ _ _ lo N sz' f _ _ _ _ hb'=>rw[g1]at hb';cases hb'
 have lnews:news.length=fs.length*i.size:=by rw[←hln'.1,flatten_len fs hfz]
 rcases shX with ⟨base,rfl,rfl,rfl⟩|⟨b,k,rfl,rfl⟩
 ·have hge:=grownCap_ge w fs.length 0 e
  have hle:=grownCap_le_maxLen w fs.length 0 e (by simpa using hmax)
  obtain⟨γ',h1,h2,h3⟩:=agrow_ok hS hg (fs:=fs) (cap:=grownCap w fs.length 0 e) (olds:=[]) (news:=news) (el:=e) (z:=z.cells) hzs h0 (by simpa using hge) hle hm hfz LR.nil hln'
  simp only[List.length_nil,Nat.zero_add,List.nil_append,Array.empty_append]at h1 h2 h3 hb h63⊢
  rcases base with _|a
  ·have hr:=run_append_nil (P:=P) w t ty e i z ht hi hz ⟨b2,off2,none⟩ fs.length cap2 news lnews hrn.add hm h63 (by omega)
   exact⟨_,_,γ',hr,h1,h2,h3⟩
  ·have hr:=run_append_grow (P:=P) w t ty e i z ht hi hz a 0 0 [] (by simp) (fun j u hu=>by simp at hu) ⟨b2,off2,none⟩ fs.length cap2 news lnews hrn.add (by omega) (by omega) (growslice_fits (by omega) (by rw[Nat.zero_add];exact hb))
   simp only[Nat.zero_add,Array.empty_append]at hr
   exact⟨_,_,γ',hr,h1,h2,h3⟩
 ·obtain⟨_,c,el,h3,h4,h5,h6,h7,h8⟩:=g2
  by_cases hroom:es.length+fs.length≤k
  ·have hfit:es.length*i.size+news.length≤c.size:=by rw[lnews,h5,←Nat.add_mul];exact Nat.mul_le_mul_right _ hroom
   have hst:=run_storeCells_at P b (es.length*i.size) el news 0 c w h3 (by simpa using hfit) hone
   simp only[Nat.add_zero]at hst
   have hf:=run_firstCells_some (P:=P) w i.size fs.length ⟨b2,off2,none⟩ fs.length cap2 news lnews hrn.add
   obtain⟨γ',k1,k2,k3⟩:=aroom_ok hS hg g1 h3 h5 h0 hroom h7 hm hes hfz h8 hln'
   refine⟨_,_,γ',?_,k1,k2,k3⟩
   simp[Builtin.append_,run_underlying ht,sizeOf,typeInfo,hi,Builtin.lenOf,hroom,hf,Addr.add_lit,hst]
  ·have hlt:k<es.length+fs.length:=by omega
   have hol:LR (d+1) w γ es.flatten (c.toList.take (es.length*i.size)):=by
    have hfl:=flatten_len es hes
    have hsize:es.length*i.size≤c.size:=by rw[h5];exact Nat.mul_le_mul_right _ h4
    refine⟨by rw[hfl];simp;omega,fun x v u hv hu=> ?_⟩
    have hx:x<es.length*i.size:=by rw[←hfl];exact(List.getElem?_eq_some_iff.1 hv).1
    rw[List.getElem?_take,if_pos hx]at hu
    have hx':x=x/i.size*i.size+x%i.size:=by rw[Nat.mul_comm,Nat.div_add_mod]
    have hm2:=Nat.mod_lt x h6
    rw[hx']at hv hu
    rw[flatten_get _ hes _ _ hm2]at hv
    obtain⟨cs,q1,q2⟩:=Option.bind_eq_some_iff.1 hv
    exact h8 _ cs _ v u q1 q2 (by simpa using hu)
   have lus:(c.toList.take (es.length*i.size)).length=es.length*i.size:=by rw[←hol.1,flatten_len es hes]
   have hro:RD w b 0 (c.toList.take (es.length*i.size)):=by
    intro j u hu
    rw[List.getElem?_take]at hu
    split at hu
    ·rw[Nat.zero_add,cell_of_row w b j c el (0,0) h3];simpa using hu
    ·cases hu
   have hr:=run_append_grow (P:=P) w t ty e i z ht hi hz ⟨b,0,none⟩ es.length k _ lus hro.add ⟨b2,off2,none⟩ fs.length cap2 news lnews hrn.add hlt h63 (growslice_fits hlt hb)
   have hge:=grownCap_ge w (es.length+fs.length) k e
   have hle:=grownCap_le_maxLen w (es.length+fs.length) k e hmax
   obtain⟨γ',k1,k2,k3⟩:=agrow_ok hS hg (cap:=grownCap w (es.length+fs.length) k e) (el:=e) (z:=z.cells) hzs h0 hge hle hm hfz hol hln'
   exact⟨_,_,γ',hr,k1,k2,k3⟩
theorem harr_shape(hS:SR K s w γ) {d l lo sz:Nat} {es:List (List V)}(hg:sget s d l=some (.harr lo sz es)) {ux:Value}(hX:VR s.length w γ (.asl d l sz es.length 0 es.length) ux):
 ∃f c el,γ d l=some (.harr lo es.length sz f)∧ux= .slice (some ⟨(f es.length).1,0,none⟩) es.length (f es.length).2∧(∀cs,cs∈es→cs.length=sz∧V.elemAll cs=true)∧0<sz∧lo≤es.length∧
  w.heap[(f es.length).1]? =some (.cells c el (0,0))∧c.size=(f es.length).2*sz∧(f es.length).2≤maxLen∧es.length≤(f es.length).2∧
  (∀m,lo≤m→m≤es.length→m≤(f m).2∧((f m).1=(f es.length).1∨(f m).1<w.heap.size∧ ∀off,¬Own γ (f m).1 off)∧
  ∀(i:Nat) cs (j:Nat) v,i<m→es[i]? =some cs→cs[j]? =some v→ ∃u,w.cell? ⟨(f m).1,i*sz+j,Option.none⟩=some u∧VR (d+1) w γ v u):=by
 obtain⟨f,h1,h0,hz,hlo,⟨c,el,h4,h5,h6⟩,h2⟩:=hS.ent d l _ hg
 refine⟨f,c,el,h1,?_,h0,hz,hlo,h4,h5,h6,(h2 _ hlo (Nat.le_refl _)).1,h2⟩
 generalize hn:es.length=n at*
 cases hX with
 |asl _ _ _ _ _ _ b k _ hb' _ _=>rw[h1]at hb';cases hb'
 |aslnil _ _ _ base _ hb'=>rw[h1]at hb';cases hb'
 |aslold _ _ _ _ _ _ N blk _ _ _ _ hb' hn2=>rw[h1]at hb';cases hb'
 |aslh _ _ _ _ _ _ lo N f' _ hb'=>rw[h1]at hb';cases hb';simp
 |aslho _ _ _ _ _ _ lo N sz' f' _ _ _ _ hb' hn2=>rw[h1]at hb';cases hb';omega
theorem hgrow_ok(hS:SR K s w γ) {d l lo sz:Nat} {es fs:List (List V)} {cap:Nat} {olds news:List Value} {el:TypeId} {z:Array Value}
 (hg:sget s d l=some (.harr lo sz es)) (hz:z.size=sz) (hcap:es.length+fs.length≤cap) (hmax:cap≤maxLen) (hpos:0<fs.length)
 (hfs: ∀cs∈fs,cs.length=sz∧V.elemAll cs=true) (hlo:LR (d+1) w γ es.flatten olds) (hln:LR (d+1) w γ fs.flatten news):
 ∃γ',VR s.length (w.drew.alloc (.cells (olds.toArray ++news.toArray ++Builtin.zeroCells z (cap-(es.length+fs.length))) el)) γ' (.asl d l sz (es.length+fs.length) 0 (es.length+fs.length)) (.slice (some ⟨w.heap.size,0,none⟩) (es.length+fs.length) cap)∧
  SR K (sput s d l (.harr lo sz (es ++fs))) (w.drew.alloc (.cells (olds.toArray ++news.toArray ++Builtin.zeroCells z (cap-(es.length+fs.length))) el)) γ'∧
  Ext s.length w γ (w.drew.alloc (.cells (olds.toArray ++news.toArray ++Builtin.zeroCells z (cap-(es.length+fs.length))) el)) γ':=by
 obtain⟨row,hrow⟩: ∃row,row=olds.toArray ++news.toArray ++Builtin.zeroCells z (cap-(es.length+fs.length)):=⟨_,rfl⟩
 rw[←hrow]
 obtain⟨f,h1,hes,h0,hl0,⟨c0,el0,h4,h5,h6⟩,h2⟩:=hS.ent d l _ hg
 have hd:d<s.length:=hS.lt h1
 have lo':olds.length=es.length*sz:=by rw[←hlo.1,flatten_len es (fun cs h=>(hes cs h).1)]
 have ln:news.length=fs.length*sz:=by rw[←hln.1,flatten_len fs (fun cs h=>(hfs cs h).1)]
 have hsize:row.size=cap*sz:=by
  rw[hrow];simp only[Array.size_append,List.size_toArray,zeroCells_size,lo',ln,hz,←Nat.add_mul];congr 1;omega
 obtain⟨f',hf'⟩: ∃f':Nat→Nat×Nat,f'=fun x=>if x≤es.length then f x else(w.heap.size,cap):=⟨_,rfl⟩
 have hfN:f' (es.length+fs.length)=(w.heap.size,cap):=by rw[hf'];simp;omega
 obtain⟨g,hgd⟩: ∃g:GE,g= .harr lo (es.length+fs.length) sz f':=⟨_,rfl⟩
 have hx1:Ext s.length w γ w (γ.set d l g):=by
  refine⟨rfl,rfl,rfl,Nat.le_refl _,Nat.le_refl _,?_,?_,?_,?_,?_,fun _ _ _ h _=>h,?_,fun _ _ _=>rfl,fun _=>G.set_none _ _ _ _ _,fun _ _ _ _ _=>rfl⟩
  ·intro d' l' b _ h
   rw[G.set_other γ g];exact h
   rintro⟨rfl,rfl⟩
   rw[h1]at h;cases h
  ·intro d' l' b _ h
   rw[G.set_other γ g];exact h
   rintro⟨rfl,rfl⟩
   rw[h1]at h;cases h
  ·intro d' l' n' blk' _ h
   refine⟨n',blk',?_, .inl ⟨rfl,rfl⟩⟩
   rw[G.set_other γ g];exact h
   rintro⟨rfl,rfl⟩
   rw[h1]at h;cases h
  ·intro d' l' lo1 N1 sz1 f1 _ h
   by_cases e:d'=d∧l'=l
   ·obtain⟨rfl,rfl⟩:=e
    rw[h1]at h;cases h
    exact⟨lo,es.length+fs.length,f',by rw[G.set_same,hgd],Nat.le_refl _,by omega,fun m _ hm=>by rw[hf'];simp[hm]⟩
   ·exact⟨lo1,N1,f1,by rw[G.set_other γ g e];exact h,Nat.le_refl _,Nat.le_refl _,fun _ _ _=>rfl⟩
  ·intro d' l' n' blk' _ h
   refine⟨n',blk',?_, .inl ⟨rfl,rfl⟩⟩
   rw[G.set_other γ g];exact h
   rintro⟨rfl,rfl⟩
   rw[h1]at h;cases h
  ·intro b off hlt hno ho
   rcases own_set ho with h|h
   ·rw[hgd]at h;simp[GE.owns,hfN]at h;omega
   ·exact hno h
 have hx:Ext s.length w γ (w.drew.alloc (.cells row el)) (γ.set d l g):=(hx1.trans (Ext.drew s.length w (γ.set d l g))).trans (Ext.alloc s.length w.drew (γ.set d l g) (.cells row el) (hS.frn_set _ _ _))
 have hblk:(w.drew.alloc (.cells row el)).heap[w.heap.size]? =some (.cells row el (0,0)):=heap_alloc_new w.drew _
 have hold: ∀b,b<w.heap.size→(w.drew.alloc (.cells row el)).heap[b]? =w.heap[b]? :=fun b hb=>heap_alloc_old w.drew _ b hb
 have hvr:VR s.length (w.drew.alloc (.cells row el)) (γ.set d l g) (.asl d l sz (es.length+fs.length) 0 (es.length+fs.length)) (.slice (some ⟨(f' (es.length+fs.length)).1,0*sz,none⟩) (es.length+fs.length) ((f' (es.length+fs.length)).2-0)):=
  .aslh _ _ _ _ _ _ lo _ f' hd (by rw[G.set_same,hgd]) ⟨by omega,Nat.le_refl _⟩ (by omega) (by rw[hfN];exact hcap)
 rw[Nat.zero_mul,Nat.sub_zero,hfN]at hvr
 have hsz: ∀cs,cs∈es ++fs→cs.length=sz∧V.elemAll cs=true:=fun cs h=>by
  rcases List.mem_append.1 h with h|h
  ·exact hes cs h
  ·exact hfs cs h
 have hb0:(f es.length).1<w.heap.size:=(Array.getElem?_eq_some_iff.1 h4).1
 refine⟨γ.set d l g,hvr,hS.step hd hx rfl ⟨f',by rw[G.set_same,hgd,List.length_append],hsz,h0,by rw[List.length_append];omega,⟨row,el,by rw[List.length_append,hfN];exact hblk,by rw[List.length_append,hfN];exact hsize,by rw[List.length_append,hfN];exact hmax⟩,fun m m1 m2=> ?_⟩ ?_ ?_,hx⟩
 ·rw[List.length_append]at m2
  rw[List.length_append,hfN]
  by_cases hm:m≤es.length
  ·have e:f' m=f m:=by rw[hf'];simp[hm]
   rw[e]
   obtain⟨q1,q2,q3⟩:=h2 m m1 hm
   have hlt:(f m).1<w.heap.size:=by
    rcases q2 with q2|q2
    ·rw[q2];exact hb0
    ·exact q2.1
   have hne:(f m).1≠w.heap.size:=by omega
   refine⟨q1, .inr ⟨Nat.lt_of_lt_of_le hlt hx.size,fun off ho=> ?_⟩,fun i cs j v k0 k1 k2=> ?_⟩
   ·rcases q2 with q2|q2
    ·rcases own_set' ho with h|⟨d2,l2,g2,hne2,k1,k2⟩
     ·rw[hgd]at h;simp[GE.owns,hfN]at h;omega
     ·exact hne2 (hS.inj d2 l2 g2 d l _ (f m).1 k1 h1 (GE.owns_blk k2) (by rw[q2];rfl))
    ·exact hx.free _ off hlt (q2.2 off) ho
   ·have hi:i<es.length:=by omega
    rw[List.getElem?_append_left hi]at k1
    obtain⟨u,k3,k4⟩:=q3 i cs j v k0 k1 k2
    refine⟨u,?_,k4.ext (hx.mono (by omega))⟩
    rw[World.cell?_of_block (a:=⟨(f m).1,i*sz+j,Option.none⟩) (hold _ hlt)]
    exact k3
  ·have e:f' m=(w.heap.size,cap):=by rw[hf'];simp[hm]
   rw[e]
   refine⟨by omega, .inl rfl,fun i cs j v k0 k1 k2=> ?_⟩
   have hj:j<sz:=by rw[←(hsz cs (List.mem_of_getElem? k1)).1];exact(List.getElem?_eq_some_iff.1 k2).1
   have hf:(es ++fs).flatten[i*sz+j]? =some v:=by rw[flatten_get _ (fun cs h=>(hsz cs h).1) i j hj,k1];exact k2
   have hl:LR (d+1) w γ (es ++fs).flatten (olds ++news):=by rw[flatten_append'];exact hlo.append hln
   have hlt:i*sz+j<(olds ++news).length:=by rw[←hl.1];exact(List.getElem?_eq_some_iff.1 hf).1
   have hq:row[i*sz+j]? =some (olds ++news)[i*sz+j]:=by
    rw[hrow]
    simp only[←Array.getElem?_toList,Array.toList_append]
    rw[List.getElem?_append_left hlt,List.getElem?_eq_getElem hlt]
   refine⟨_,?_,(hl.2 _ v _ hf (List.getElem?_eq_getElem hlt)).ext (hx.mono (by omega))⟩
   rw[cell_of_row _ w.heap.size _ row el (0,0) hblk]
   exact hq
 ·intro d' l' g' b _ hg' hb
  exact heap_alloc_old w.drew _ b (by simpa using hS.blk_lt hg' hb)
 ·intro b hb d' l' g' _ hg' hb'
  rw[hgd]at hb;simp[GE.blk,hfN]at hb
  have:=hS.blk_lt hg' hb'
  omega
theorem hroom_ok(hS:SR K s w γ) {d l lo sz:Nat} {es fs:List (List V)} {f:Nat→Nat×Nat} {b k:Nat} {c:Array Value} {el:TypeId} {news:List Value}
 (hg:sget s d l=some (.harr lo sz es)) (h1:γ d l=some (.harr lo es.length sz f)) (hfb:f es.length=(b,k)) (hc:w.heap[b]? =some (.cells c el (0,0))) (hcap:es.length+fs.length≤k) (hpos:0<fs.length)
 (hfs: ∀cs∈fs,cs.length=sz∧V.elemAll cs=true) (hln:LR (d+1) w γ fs.flatten news):
 ∃γ',VR s.length (w.setRow b (c.toList.take (es.length*sz) ++news ++c.toList.drop (es.length*sz+news.length)).toArray) γ' (.asl d l sz (es.length+fs.length) 0 (es.length+fs.length)) (.slice (some ⟨b,0,none⟩) (es.length+fs.length) k)∧
  SR K (sput s d l (.harr lo sz (es ++fs))) (w.setRow b (c.toList.take (es.length*sz) ++news ++c.toList.drop (es.length*sz+news.length)).toArray) γ'∧
  Ext s.length w γ (w.setRow b (c.toList.take (es.length*sz) ++news ++c.toList.drop (es.length*sz+news.length)).toArray) γ':=by
 obtain⟨row,hrow⟩: ∃row,row=c.toList.take (es.length*sz) ++news ++c.toList.drop (es.length*sz+news.length):=⟨_,rfl⟩
 rw[←hrow]
 obtain⟨f0,h10,hes,h0,hl0,⟨c0,el0,h4,h5,h6⟩,h2⟩:=hS.ent d l _ hg
 rw[h1]at h10;cases h10
 rw[hfb]at h4 h5 h6
 rw[hc]at h4;cases h4
 have hd:d<s.length:=hS.lt h1
 have ln:news.length=fs.length*sz:=by rw[←hln.1,flatten_len fs (fun cs h=>(hfs cs h).1)]
 have hfit:es.length*sz+fs.length*sz≤c.size:=by rw[h5,←Nat.add_mul];exact Nat.mul_le_mul_right _ hcap
 have hcl:c.toList.length=c.size:=Array.length_toList
 have hrs:row.toArray.size=k*sz:=by
  rw[hrow];simp only[List.size_toArray,List.length_append,List.length_take,List.length_drop,hcl,ln];simp only at h5;omega
 have hget: ∀x,row.toArray[x]? =if es.length*sz≤x∧x<es.length*sz+news.length then news[x-es.length*sz]? else c[x]? :=by
  intro x
  rw[hrow,List.getElem?_toArray,splice_get _ _ _ (by omega)]
  simp
 have hown: ∀o,Own γ b o:=fun o=>⟨d,l,_,h1,by simp[GE.owns,hfb]⟩
 obtain⟨f',hf'⟩: ∃f':Nat→Nat×Nat,f'=fun x=>if x≤es.length then f x else(b,k):=⟨_,rfl⟩
 have hfN:f' (es.length+fs.length)=(b,k):=by rw[hf'];simp;omega
 obtain⟨g',hgd⟩: ∃g:GE,g= .harr lo (es.length+fs.length) sz f':=⟨_,rfl⟩
 have hx:Ext s.length w γ (w.setRow b row.toArray) (γ.set d l g'):=
  Ext.setRow s.length h1 (by simp[GE.blk,hfb]) (fun b' off h=>by rw[hgd]at h;simp only[GE.owns,hfN,hfb]at h⊢;exact h) hc (fun off u hno _=>absurd (hown off) hno) ⟨0,by simp[GE.owns,hfb]⟩ (hS.notfrn h1 (by simp[GE.blk,hfb])) (fun _ h=>by cases h) (fun _ h=>by cases h)
   (fun _ _ h=>by cases h) (fun n' blk h=>by cases h) (fun lo1 N1 sz1 f1 h=>by cases h;exact⟨lo,_,f',hgd,Nat.le_refl _,by omega,fun m _ hm=>by rw[hf'];simp[hm]⟩)
 have hblk:(w.setRow b row.toArray).heap[b]? =some (.cells row.toArray el (0,0)):=setRow_heap w b c _ el _ hc
 have hvr:VR s.length (w.setRow b row.toArray) (γ.set d l g') (.asl d l sz (es.length+fs.length) 0 (es.length+fs.length)) (.slice (some ⟨(f' (es.length+fs.length)).1,0*sz,none⟩) (es.length+fs.length) ((f' (es.length+fs.length)).2-0)):=
  .aslh _ _ _ _ _ _ lo _ f' hd (by rw[G.set_same,hgd]) ⟨by omega,Nat.le_refl _⟩ (by omega) (by rw[hfN];exact hcap)
 rw[Nat.zero_mul,Nat.sub_zero,hfN]at hvr
 have hsz: ∀cs,cs∈es ++fs→cs.length=sz∧V.elemAll cs=true:=fun cs h=>by
  rcases List.mem_append.1 h with h|h
  ·exact hes cs h
  ·exact hfs cs h
 have hbs:b<w.heap.size:=(Array.getElem?_eq_some_iff.1 hc).1
 have hfirst: ∀(i j:Nat),i<es.length→j<sz→row.toArray[i*sz+j]? =c[i*sz+j]? :=fun i j hi hj=>by
  have:=Nat.mul_le_mul_right sz (show i+1≤es.length by omega)
  rw[Nat.add_mul]at this
  rw[hget,if_neg (by omega)]
 refine⟨γ.set d l g',hvr,hS.step hd hx rfl ⟨f',by rw[G.set_same,hgd,List.length_append],hsz,h0,by rw[List.length_append];omega,⟨row.toArray,el,by rw[List.length_append,hfN];exact hblk,by rw[List.length_append,hfN];exact hrs,by rw[List.length_append,hfN];exact h6⟩,fun m m1 m2=> ?_⟩ ?_ ?_,hx⟩
 ·rw[List.length_append]at m2
  rw[List.length_append,hfN]
  by_cases hm:m≤es.length
  ·have e:f' m=f m:=by rw[hf'];simp[hm]
   rw[e]
   obtain⟨q1,q2,q3⟩:=h2 m m1 hm
   rw[hfb]at q2
   refine⟨q1,?_,fun i cs j v k0 k1 k2=> ?_⟩
   ·rcases q2 with q2|q2
    ·exact .inl q2
    ·exact .inr ⟨by simpa using q2.1,fun off ho=>hx.free _ off q2.1 (q2.2 off) ho⟩
   ·have hi:i<es.length:=by omega
    have hj:j<sz:=by rw[←(hsz cs (List.mem_of_getElem? k1)).1];exact(List.getElem?_eq_some_iff.1 k2).1
    rw[List.getElem?_append_left hi]at k1
    obtain⟨u,k3,k4⟩:=q3 i cs j v k0 k1 k2
    refine⟨u,?_,k4.ext (hx.mono (by omega))⟩
    by_cases hb1:(f m).1=b
    ·rw[hb1]at k3⊢
     rw[cell_of_row _ b _ c el (0,0) hc]at k3
     rw[cell_of_row _ b _ row.toArray el (0,0) hblk,hfirst i j hi hj]
     exact k3
    ·rcases q2 with q2|q2
     ·exact absurd q2 hb1
     ·exact hx.keep _ _ _ k3 (q2.2 _)
  ·have e:f' m=(b,k):=by rw[hf'];simp[hm]
   rw[e]
   refine⟨by omega, .inl rfl,fun i cs j v k0 k1 k2=> ?_⟩
   have hj:j<sz:=by rw[←(hsz cs (List.mem_of_getElem? k1)).1];exact(List.getElem?_eq_some_iff.1 k2).1
   rw[cell_of_row _ b _ row.toArray el (0,0) hblk]
   by_cases hi:i<es.length
   ·rw[List.getElem?_append_left hi]at k1
    obtain⟨_,_,q3⟩:=h2 es.length hl0 (Nat.le_refl _)
    obtain⟨u,k3,k4⟩:=q3 i cs j v hi k1 k2
    rw[hfb,cell_of_row _ b _ c el (0,0) hc]at k3
    exact⟨u,by rw[hfirst i j hi hj];exact k3,k4.ext (hx.mono (by omega))⟩
   ·rw[List.getElem?_append_right (by omega)]at k1
    have hlt:i-es.length<fs.length:=(List.getElem?_eq_some_iff.1 k1).1
    have hf:fs.flatten[(i-es.length)*sz+j]? =some v:=by rw[flatten_get _ (fun cs h=>(hfs cs h).1) _ j hj,k1];exact k2
    have e1:i*sz+j=es.length*sz+((i-es.length)*sz+j):=by
     rw[←Nat.add_assoc,←Nat.add_mul];congr 2;omega
    have hlt2:(i-es.length)*sz+j<news.length:=by rw[←hln.1];exact(List.getElem?_eq_some_iff.1 hf).1
    refine⟨news[(i-es.length)*sz+j],?_,(hln.2 _ v _ hf (List.getElem?_eq_getElem hlt2)).ext (hx.mono (by omega))⟩
    rw[hget,if_pos (by omega),show i*sz+j-es.length*sz=(i-es.length)*sz+j by omega,List.getElem?_eq_getElem hlt2]
 ·intro d' l' g1 b1 hne hg1 hb1
  refine setRow_other w b b1 _ ?_
  rintro rfl
  exact hne (hS.inj d' l' g1 d l _ b1 hg1 h1 hb1 (by simp[GE.blk,hfb]))
 ·intro b1 hb1 d' l' g1 hne hg1 hb1'
  rw[hgd]at hb1;simp[GE.blk,hfN]at hb1;subst hb1
  exact hne (hS.inj d' l' g1 d l _ b hg1 h1 hb1' (by simp[GE.blk,hfb]))
theorem happ_ok(hS:SR K s w γ) {t e:TypeId} {i:TypeInfo} {z:Value}(ty:TypeId)(ht:P.underlying t=some (.slice e))(hi:P.info? e=some i)(hz:i.zero=some z)(hzs:z.cells.size=i.size)
 {d l lo:Nat} {es fs:List (List V)} {c':Cap} {ux uy:Value} (hb:(es.length+fs.length)*i.bytes≤140737488355328) (hl:es.length+fs.length<140737488355328) (hg:sget s d l=some (.harr lo i.size es))
 (hX:VR s.length w γ (.asl d l i.size es.length 0 es.length) ux) (hfs:fs≠[]) (hY:VR s.length w γ (.sl c' i.size fs) uy):
 ∃u w' γ',(Builtin.append_ #[t,t] ty #[ux,uy]).run P w= .ok u w'∧VR s.length w' γ' (.asl d l i.size (es.length+fs.length) 0 (es.length+fs.length)) u∧SR K (sput s d l (.harr lo i.size (es ++fs))) w' γ'∧Ext s.length w γ w' γ':=by
 have hmax:es.length+fs.length≤maxLen:=by simp only[maxLen];omega
 have h63:((es.length+fs.length:Nat):Int)≤9223372036854775807:=by omega
 have hm:0<fs.length:=List.length_pos_iff.2 hfs
 obtain⟨f,c,el,h1,rfl,hes,h0,hlo,h4,h5,h6,h7,h2⟩:=harr_shape hS hg hX
 obtain⟨b,hbd⟩: ∃b,b=(f es.length).1:=⟨_,rfl⟩
 obtain⟨k,hk⟩: ∃k,k=(f es.length).2:=⟨_,rfl⟩
 have hfb:f es.length=(b,k):=by rw[hbd,hk]
 rw[←hbd]at h4⊢
 rw[←hk]at h5 h6 h7⊢
 rcases hY.sl_inv with ⟨_,_,_,e0,_⟩|⟨b2,off2,cap2,news,rfl,hfz,hfp,hle2,_,hln,hrn,_⟩
 ·exact absurd e0 hfs
 have lnews:news.length=fs.length*i.size:=by rw[←hln.1,flatten_len fs hfz]
 have hln':LR (d+1) w γ fs.flatten news:=⟨hln.1,fun i v u hv hu=>(hln.2 i v u hv hu).pure' _ (by
  obtain⟨cs,hc,hv⟩:=List.mem_flatten.1 (List.mem_of_getElem? hv)
  exact(elemAll_mem (hfp cs hc) v hv).1)⟩
 have hfz': ∀cs∈fs,cs.length=i.size∧V.elemAll cs=true:=fun cs h=>⟨hfz cs h,hfp cs h⟩
 by_cases hroom:es.length+fs.length≤k
 ·have hfit:es.length*i.size+news.length≤c.size:=by rw[lnews,h5,←Nat.add_mul];exact Nat.mul_le_mul_right _ hroom
  have hst:=run_storeCells_at P b (es.length*i.size) el news 0 c w h4 (by simpa using hfit) (hln.one (fun v hv=>by
   obtain⟨cs,hcs1,hv1⟩:=List.mem_flatten.1 hv
   exact(elemAll_mem (hfp cs hcs1) v hv1).2))
  simp only[Nat.add_zero]at hst
  have hf:=run_firstCells_some (P:=P) w i.size fs.length ⟨b2,off2,none⟩ fs.length cap2 news lnews hrn.add
  obtain⟨γ',k1,k2,k3⟩:=hroom_ok hS hg h1 hfb h4 hroom hm hfz' hln'
  refine⟨_,_,γ',?_,k1,k2,k3⟩
  simp[Builtin.append_,run_underlying ht,sizeOf,typeInfo,hi,Builtin.lenOf,hroom,hf,Addr.add_lit,hst]
 ·have hlt:k<es.length+fs.length:=by omega
  have hesz: ∀cs∈es,cs.length=i.size:=fun cs h=>(hes cs h).1
  have hol:LR (d+1) w γ es.flatten (c.toList.take (es.length*i.size)):=by
   have hfl:=flatten_len es hesz
   have hsize:es.length*i.size≤c.size:=by rw[h5];exact Nat.mul_le_mul_right _ h7
   refine⟨by rw[hfl];simp;omega,fun x v u hv hu=> ?_⟩
   have hx:x<es.length*i.size:=by rw[←hfl];exact(List.getElem?_eq_some_iff.1 hv).1
   rw[List.getElem?_take,if_pos hx]at hu
   have hx':x=x/i.size*i.size+x%i.size:=by rw[Nat.mul_comm,Nat.div_add_mod]
   have hm2:=Nat.mod_lt x h0
   rw[hx']at hv hu
   rw[flatten_get _ hesz _ _ hm2]at hv
   obtain⟨cs,q1,q2⟩:=Option.bind_eq_some_iff.1 hv
   obtain⟨u',q3,q4⟩:=(h2 es.length hlo (Nat.le_refl _)).2.2 _ cs _ v (List.getElem?_eq_some_iff.1 q1).1 q1 q2
   rw[hfb,cell_of_row _ b _ c el (0,0) h4]at q3
   have:c[x/i.size*i.size+x%i.size]? =some u:=by simpa using hu
   rw[this]at q3
   cases q3
   exact q4
  have lus:(c.toList.take (es.length*i.size)).length=es.length*i.size:=by rw[←hol.1,flatten_len es hesz]
  have hro:RD w b 0 (c.toList.take (es.length*i.size)):=by
   intro j u hu
   rw[List.getElem?_take]at hu
   split at hu
   ·rw[Nat.zero_add,cell_of_row w b j c el (0,0) h4];simpa using hu
   ·cases hu
  have hr:=run_append_grow (P:=P) w t ty e i z ht hi hz ⟨b,0,none⟩ es.length k _ lus hro.add ⟨b2,off2,none⟩ fs.length cap2 news lnews hrn.add hlt h63 (growslice_fits hlt hb)
  have hge:=grownCap_ge w (es.length+fs.length) k e
  have hle:=grownCap_le_maxLen w (es.length+fs.length) k e hmax
  obtain⟨γ',k1,k2,k3⟩:=hgrow_ok hS hg (cap:=grownCap w (es.length+fs.length) k e) (el:=e) (z:=z.cells) hzs hge hle hm hfz' hol hln'
  exact⟨_,_,γ',hr,k1,k2,k3⟩
theorem fill_litM(hE:ER s.length w γ e a) {el:TypeId} {n:Nat}:
 ∀ {ps:List (Nat×Operand)} {qs:List (Nat×Opd)},partsL P el ps=some qs→ ∀ {es es':List (List V)} {ds:Array Value},litAllM e n qs es=some es'→(∀cs∈es,cs.length=n)→LR s.length w γ es.flatten ds.toList→
  ∃ds',Instr.fill (fun i=>some (i*n,n)) ds (ps.map fun x=>(x.1,a.eval x.2))=some ds'∧LR s.length w γ es'.flatten ds'.toList∧(∀cs∈es',cs.length=n)∧es'.length=es.length
 |[],qs,h,es,es',ds,hf,hz,hd=>by simp[partsL]at h;subst h;simp[litAllM]at hf;subst hf;exact⟨ds,rfl,hd,hz,rfl⟩
 |(i,x)::r,qs,h,es,es',ds,hf,hz,hd=>by
   unfold partsL at h
   split at h
   ·rename_i y r' h1 h2
    cases h
    simp only[litAllM]at hf
    split at hf
    ·rename_i hc
     simp only[Bool.and_eq_true,decide_eq_true_eq]at hc
     obtain⟨⟨hlen,hel⟩,hi⟩:=hc
     have hdef:(y.ev e).isDef=true:=by
      cases hy:y.ev e with
      |undef=>rw[hy]at hel;simp[V.cells,V.oneAll,V.one]at hel
      |skip=>rw[hy]at hel;simp[V.cells,V.oneAll,V.one]at hel
      |_=>rfl
     have hv:=(hE.opdT h1).cells hdef
     have hfl:=flatten_len es hz
     have hle:i*n+n≤es.flatten.length:=by
      have:(i+1)*n≤es.length*n:=Nat.mul_le_mul_right _ hi
      rw[hfl];rw[Nat.add_mul]at this;omega
     obtain⟨ds1,e1,hd1⟩:=fill_step (place:=fun i=>some (i*n,n)) (i:=i) rfl hv hlen hd hle (r.map fun x=>(x.1,a.eval x.2))
     rw[flatten_set es i _ hz hlen hi]at hd1
     obtain⟨ds2,e2,hd2,hz2,hl2⟩:=fill_litM hE h2 hf (fun cs hcs=>by
      rcases List.mem_or_eq_of_mem_set hcs with h|h
      ·exact hz cs h
      ·rw[h];exact hlen) hd1
     exact⟨ds2,by simp only[List.map_cons];rw[e1,e2],hd2,hz2,by simpa using hl2⟩
    ·cases hf
   ·cases h
theorem litm_ok(hS:SR K s w γ)(hE:ER s.length w γ e a) {t el:TypeId} {len:Nat} {ps:Array (Nat×Operand)} {z:List V} {qs:List (Nat×Opd)}(hu:P.underlying t=some (.slice el))(hz:zeroT P el=some z)(hq:partsL P el ps.toList=some qs)
 (h0:0<z.length) (hsmall:len*z.length≤4096) (hsz:sizeT P el=some z.length) {lab:Nat} {v:V} {f:Eff} (hv:aop (.litm z len qs) lab e s=some (v,f)):
 OpOk K s w γ ((do pure (Next.value (←Instr.buildSlice t len (ps.map fun(i,x)=>(i,a.eval x)))):Sem Next).run P w) v f:=by
 have hps:(ps.map fun(i,x)=>(i,a.eval x)).toList=ps.toList.map fun x=>(x.1,a.eval x.2):=by simp
 simp only[aop]at hv
 split at hv
 rotate_left
 ·cases hv
 rename_i hc
 obtain⟨_,hn,hne,hlp⟩:=hc
 obtain⟨es,hes,hv⟩:=Option.map_eq_some_iff.1 hv
 cases hv
 obtain⟨i,zv,hi,hz',hl,_⟩:=zeroT_ok hz s.length w γ
 have hisz:i.size=z.length:=by unfold sizeT at hsz;rw[hi]at hsz;simpa using hsz
 have hzl:zv.cells.size=z.length:=by have:=hl.1;simpa using this.symm
 have hrep: ∀cs∈List.replicate len z,cs.length=z.length:=fun cs h=>by rw[List.eq_of_mem_replicate h]
 obtain⟨ds0,hds0⟩: ∃ds0,ds0=((Array.range (len*i.size)).map (zv.cells[· %zv.cells.size]!)):=⟨_,rfl⟩
 have hl0:LR s.length w γ (List.replicate len z).flatten ds0.toList:=by
  have hfl:=flatten_len _ hrep
  simp only[List.length_replicate]at hfl
  refine⟨by rw[hfl,hds0,hisz];simp,fun k x u hx hu=> ?_⟩
  have hk:k<len*z.length:=by rw[←hfl];exact(List.getElem?_eq_some_iff.1 hx).1
  have hkm:k%z.length<z.length:=Nat.mod_lt _ h0
  have hkd:k/z.length<len:=by rw[Nat.div_lt_iff_lt_mul h0];exact hk
  rw[show k=k/z.length*z.length+k%z.length by rw[Nat.mul_comm,Nat.div_add_mod],flatten_get _ hrep _ _ hkm]at hx
  rw[List.getElem?_replicate,if_pos hkd]at hx
  rw[hds0,hisz]at hu
  simp only[Array.getElem?_toList,Array.getElem?_map,Array.getElem?_range,hk,if_true,Option.map_some,Option.some.injEq,hzl]at hu
  refine hl.2 (k%z.length) x u hx ?_
  rw[←hu]
  have:k%z.length<zv.cells.size:=by rw[hzl];exact hkm
  simp[this]
 obtain⟨ds,hf,hd,hz2,hl2⟩:=fill_litM (P:=P) hE hq (ds:=ds0) hes hrep hl0
 have hlen:es.length=len:=by simpa using hl2
 have hrun:(Instr.buildSlice t len (ps.map fun(i,x)=>(i,a.eval x))).run P w= .ok (.slice (some ⟨w.heap.size,0,none⟩) len len) (w.alloc (.cells ds el)):=by
  have hpos: ¬len*i.size=0:=by
   rw[hisz];intro h;rcases Nat.mul_eq_zero.1 h with h|h<;>omega
  have hf':Instr.fill (fun i_1=>some (i_1*i.size,i.size)) ds0 (ps.map fun(i,x)=>(i,a.eval x)).toList=some ds:=by rw[hps,hisz];exact hf
  rw[hds0]at hf'
  have hgt: ¬len*i.size>2^24:=by rw[hisz];omega
  simp only[Instr.buildSlice,Sem.run_bind,run_underlying hu,Result.andThen_ok,sizeOf,typeInfo,run_program,hi,Sem.run_pure,hgt,if_false,hpos,zeroValue,hz',hf',newRow,run_newObj]
  rfl
 simp only[Sem.run_bind,hrun,Result.andThen_ok,Sem.run_pure]
 have hdl:ds.size=es.length*z.length:=by
  have:=hd.1
  rw[flatten_len es hz2]at this
  simpa using this.symm
 have hmx:es.length≤maxLen:=by
  have:len≤len*z.length:=Nat.le_mul_of_pos_right _ h0
  simp only[maxLen];omega
 obtain⟨γ',k1,k2,k3⟩:=arr_new (K:=K) hS hne (by simpa using hn) (fun γ'=>Ext.refl _ w γ') rfl hz2 h0 (row:=ds) hdl (Nat.le_refl _) hmx hd (fun j u hu=>by simpa using hu) el
 rw[hlen]at k1
 exact⟨_,_,γ', .inl rfl,k1,k2,k3⟩
end
end Go.Ab

/-
  Operations: maps from integers, or structs of integers, to integers.
-/
namespace Go.Ab
section
variable {P : Program} {D : Nat} {w : World} {γ : G}
abbrev iv(n:Int):Value:= .int .i64 n
theorem intsOf_len: ∀ {cs:List V} {l:List Int},intsOf cs=some l→l.length=cs.length
 |[],l,h=>by simp[intsOf]at h;subst h;rfl
 |v::r,l,h=>by
   unfold intsOf at h
   split at h
   ·rename_i heq;cases heq
   ·rename_i n r' heq
    cases heq
    obtain⟨l',h1,rfl⟩:=Option.map_eq_some_iff.1 h
    simp[intsOf_len h1]
   ·cases h
theorem intsOf_lr: ∀ {cs:List V} {l:List Int} {us:List Value},intsOf cs=some l→LR D w γ cs us→us=l.map iv
 |[],l,us,h,hl=>by
   simp[intsOf]at h;subst h
   exact List.eq_nil_of_length_eq_zero hl.1.symm
 |v::r,l,us,h,hl=>by
   unfold intsOf at h
   split at h
   ·rename_i heq;cases heq
   ·rename_i n r' heq
    cases heq
    obtain⟨l',h1,rfl⟩:=Option.map_eq_some_iff.1 h
    obtain⟨u,us',rfl,h2,h3⟩:=hl.inv
    rw[h2.int_inv,intsOf_lr h1 h3];rfl
   ·cases h
theorem keyInts_vr {t:Option Nat} {v:V} {u:Value} {ns:List Int}(h:keyInts t v=some ns)(hv:VR D w γ v u):u=keyV t ns∧ns.length=t.getD 1:=by
 unfold keyInts at h
 split at h
 ·cases h;exact⟨hv.int_inv,rfl⟩
 ·rename_i m cs
  split at h
  ·rename_i hc
   obtain⟨us,rfl,hl⟩:=hv.agg_inv
   have:=intsOf_lr h hl
   refine⟨?_,by rw[intsOf_len h,hc];rfl⟩
   simp only[keyV]
   rw[show us=us.toList.toArray by simp,this]
  ·cases h
 ·cases h
theorem part_iv {e:TypeId}(he:isAggT P e=some false)(as:List Int) {i:Nat}(hi:i<as.length)(w:World):(Go.part e (as.map iv).toArray i).run P w= .ok (iv as[i]) w:=by
 unfold Go.part
 simp[run_isAgg he,hi]
theorem eqItems_iv(k:Nat) {e:TypeId}(hu:P.underlying e=some (.int .i64))(as bs:List Int)(w:World): ∀(is:List Nat),(∀i∈is,i<as.length∧i<bs.length)→
 (Op.eqItems (k+1) e 1 (as.map iv).toArray (bs.map iv).toArray is).run P w= .ok (is.all fun i=>as.getD i 0==bs.getD i 0) w
 |[],_=>rfl
 |i::is,h=>by
   have he:isAggT P e=some false:=by simp[isAggT,hu]
   obtain⟨ha,hb⟩:=h i (by simp)
   simp only[Op.eqItems,Nat.mul_one,Sem.run_bind,part_iv he as ha,part_iv he bs hb,Result.andThen_ok,run_equalIn_int w k e _ .i64 _ _ hu,Sem.run_ite,Sem.run_pure,eqItems_iv k hu as bs w is fun j hj=>h j (by simp[hj]),List.all_cons]
   rw[show as.getD i 0=as[i]by simp[List.getD,ha],show bs.getD i 0=bs[i]by simp[List.getD,hb]]
   by_cases e1:as[i]=bs[i]<;>simp[e1]
theorem range_all(as bs:List Int)(h:as.length=bs.length):((List.range as.length).all fun i=>as.getD i 0==bs.getD i 0)=decide (as=bs):=by
 rw[Bool.eq_iff_iff]
 simp only[List.all_eq_true,List.mem_range,beq_iff_eq,decide_eq_true_eq]
 constructor
 ·intro hh
  apply List.ext_getElem h
  intro i h1 h2
  have:=hh i h1
  simpa [List.getD,h1,h2]using this
 ·rintro rfl i _;rfl
theorem info_of_sizeT {t:TypeId} {n:Nat}(h:sizeT P t=some n): ∃i,P.info? t=some i∧i.size=n:=by
 unfold sizeT at h
 obtain⟨i,h1,h2⟩:=Option.map_eq_some_iff.1 h
 exact⟨i,h1,h2⟩
theorem pkArr_inv {n m:Nat} {el:TypeId}(h:pkArr P n el=some m):m=n∧P.underlying el=some (.int .i64)∧sizeT P el=some 1∧P.cellsOf el=1:=by
 unfold pkArr at h
 split at h
 ·rename_i hu
  split at h
  ·rename_i hc
   cases h
   exact⟨rfl,hu,hc⟩
  ·cases h
 ·cases h
theorem part_pk {d:Nat} {t:TypeId} {k:Nat}(h:pkT P d t=some k)(hs:sizeT P t=some k)(as:List Int) {off:Nat}(ho:off+k≤as.length)(w:World):
 (Go.part t (as.map iv).toArray off).run P w= .ok (valAt P t (((as.drop off).take k).map iv)) w:=by
 have hagg:(isAggT P t=some false∧k=1)∨isAggT P t=some true:=by
  cases d with
  |zero=>simp[pkT]at h
  |succ d=>
    simp only[pkT]at h
    unfold isAggT
    split at h<;>rename_i hu<;>simp[hu]at h⊢
    exact h.symm
 unfold Go.part
 rcases hagg with ⟨hb,rfl⟩|hb
 ·have hn:off<as.length:=by omega
  have:(as.drop off).take 1=[as[off]]:=by
   rw[List.drop_eq_getElem_cons hn,List.take_succ_cons,List.take_zero]
  simp[run_isAgg hb,hn,valAt,hb,this]
 ·simp[run_isAgg hb,run_sizeOf' hs,valAt,hb,List.take_drop,List.map_take,List.map_drop]
theorem pk_eq: ∀(d:Nat),(∀(t:TypeId) (n:Nat),pkT P d t=some n→ ∀as bs:List Int,as.length=n→bs.length=n→ ∀k,d+1≤k→(Op.equalIn k t (valAt P t (as.map iv)) (valAt P t (bs.map iv))).run P w= .ok (decide (as=bs)) w)∧
 (∀(fs:List Field) (n0 n:Nat),pkFs P d fs n0=some n→ ∀as bs:List Int,as.length=n0+n→bs.length=n0+n→ ∀k,d+1≤k→(Op.eqFields k (as.map iv).toArray (bs.map iv).toArray fs).run P w= .ok (decide (as.drop n0=bs.drop n0)) w):=by
 intro d
 induction d with
 |zero=>exact⟨fun t n h=>by simp[pkT]at h,fun fs n0 n h=>by simp[pkFs]at h⟩
 |succ d ih=>
   refine⟨fun t n h as bs ha hb k hk=> ?_,fun fs n0 n h as bs ha hb k hk=> ?_⟩
   ·obtain⟨k,rfl⟩: ∃k',k=k'+1:=⟨k-1,by omega⟩
    simp only[pkT]at h
    split at h
    ·rename_i ht
     cases h
     have e1:isAggT P t=some false:=by simp[isAggT,ht]
     obtain⟨x,rfl⟩:=List.length_eq_one_iff.1 ha
     obtain⟨y,rfl⟩:=List.length_eq_one_iff.1 hb
     simp only[valAt,e1,List.map_cons,List.map_nil,run_equalIn_int w k t _ .i64 _ _ ht]
     rw[show(x==y)=decide ([x]=[y])by rw[Bool.eq_iff_iff];simp]
    ·rename_i m el ht
     obtain⟨rfl,hu,hs,hc⟩:=pkArr_inv h
     obtain⟨i,hi,hi1⟩:=info_of_sizeT hs
     have e1:isAggT P t=some true:=by simp[isAggT,ht]
     have hv1: ∀us:List Value,valAt P t us= .agg us.toArray:=fun us=>by simp[valAt,e1]
     rw[hv1,hv1,run_equalIn_array w k _ _ ht hi,hc]
     obtain⟨k,rfl⟩: ∃k',k=k'+1:=⟨k-1,by omega⟩
     rw[eqItems_iv k hu as bs w _ (fun i hi=>by rw[ha,hb];simpa using hi),←ha,range_all as bs (by omega)]
    ·rename_i fs ht
     split at h
     ·cases h
     ·rename_i hst
      have e1:isAggT P t=some true:=by simp[isAggT,ht]
      have e2:P.fieldsOf t=fs:=by simp[Program.fieldsOf,ht]
      have hv1: ∀us:List Value,valAt P t us= .agg us.toArray:=fun us=>by simp[valAt,e1]
      rw[hv1,hv1,run_equalIn_struct w k t _ _ (by rw[e2];exact ht) (by simpa using hst),e2]
      simpa using ih.2 fs.toList 0 n h as bs (by omega) (by omega) k (by omega)
    ·cases h
   ·cases fs with
    |nil=>
      simp only[pkFs]at h
      cases h
      have e1:as.drop n0=[]:=List.drop_eq_nil_of_le (by omega)
      have e2:bs.drop n0=[]:=List.drop_eq_nil_of_le (by omega)
      simp[e1,e2,Op.eqFields]
    |cons f rest=>
      simp only[pkFs]at h
      split at h
      ·rename_i hf
       split at h
       ·rename_i k1 hk1
        split at h
        ·rename_i hsz
         obtain⟨k2,hk2,rfl⟩:=Option.map_eq_some_iff.1 h
         have hx:=part_pk hk1 hsz as (off:=n0) (by omega) w
         have hy:=part_pk hk1 hsz bs (off:=n0) (by omega) w
         have heq:=ih.1 f.type k1 hk1 ((as.drop n0).take k1) ((bs.drop n0).take k1) (by simp;omega) (by simp;omega) k (by omega)
         have hrest:=ih.2 rest (n0+k1) k2 hk2 as bs (by omega) (by omega) k (by omega)
         simp only[Op.eqFields,hf.1,hf.2,ne_eq,not_false_eq_true,if_true,Sem.run_bind,hx,hy,heq,Result.andThen_ok,Sem.run_ite,hrest,Sem.run_pure]
         have split:as.drop n0=bs.drop n0↔(as.drop n0).take k1=(bs.drop n0).take k1∧as.drop (n0+k1)=bs.drop (n0+k1):=by
          constructor
          ·intro e;rw[e];exact⟨rfl,by rw[←List.drop_drop,←List.drop_drop,e]⟩
          ·rintro⟨e1,e2⟩
           rw[←List.take_append_drop k1 (as.drop n0),←List.take_append_drop k1 (bs.drop n0),e1,List.drop_drop,List.drop_drop,e2]
         by_cases e1:(as.drop n0).take k1=(bs.drop n0).take k1<;>by_cases e2:as.drop (n0+k1)=bs.drop (n0+k1)<;>simp[e1,e2,split]
        ·cases h
       ·cases h
      ·cases h
theorem pk_check(em:Bool): ∀(d:Nat),(∀(t:TypeId) (n:Nat),pkT P d t=some n→ ∀as:List Int,as.length=n→ ∀k,d+1≤k→(Instr.checkKey em k t (valAt P t (as.map iv))).run P w= .ok () w)∧
 (∀(fs:List Field) (n0 n:Nat),pkFs P d fs n0=some n→ ∀as:List Int,as.length=n0+n→ ∀k,d+1≤k→
   ∀f,f∈fs→f.name≠ "_" ∧ ∃v,(Go.part f.type (as.map iv).toArray f.offset).run P w= .ok v w∧(Instr.checkKey em k f.type v).run P w= .ok () w):=by
 intro d
 induction d with
 |zero=>exact⟨fun t n h=>by simp[pkT]at h,fun fs n0 n h=>by simp[pkFs]at h⟩
 |succ d ih=>
   refine⟨fun t n h as ha k hk=> ?_,fun fs n0 n h as ha k hk=> ?_⟩
   ·obtain⟨k,rfl⟩: ∃k',k=k'+1:=⟨k-1,by omega⟩
    simp only[pkT]at h
    split at h
    ·rename_i ht
     cases h
     have e1:isAggT P t=some false:=by simp[isAggT,ht]
     obtain⟨x,rfl⟩:=List.length_eq_one_iff.1 ha
     simp[valAt,e1,Instr.checkKey,run_underlying ht]
    ·rename_i m el ht
     obtain⟨rfl,hu,hs,hc⟩:=pkArr_inv h
     have e1:isAggT P t=some true:=by simp[isAggT,ht]
     have e0:isAggT P el=some false:=by simp[isAggT,hu]
     have hv1: ∀us:List Value,valAt P t us= .agg us.toArray:=fun us=>by simp[valAt,e1]
     obtain⟨k,rfl⟩: ∃k',k=k'+1:=⟨k-1,by omega⟩
     rw[hv1,Instr.checkKey]
     simp only[Sem.run_bind,run_underlying ht,Result.andThen_ok]
     simp only[Std.Legacy.Range.forIn_eq_forIn_range',Std.Legacy.Range.size,Nat.sub_zero,Nat.add_one_sub_one,Nat.div_one]
     have each: ∀i∈List.range' 0 n,i<as.length:=fun i hi=>by simp at hi;omega
     generalize List.range' 0 n=is at each
     induction is with
     |nil=>simp
     |cons j is ih'=>
       have hj:=each j (by simp)
       simp only[List.forIn_cons,Sem.run_bind,run_sizeOf' hs,Result.andThen_ok,Nat.mul_one,part_iv e0 as hj,Sem.run_pure]
       have hck:(Instr.checkKey em (k+1) el (iv as[j])).run P w= .ok () w:=by simp[Instr.checkKey,run_underlying hu]
       simp only[hck,Result.andThen_ok]
       exact ih' (fun i hi=>each i (by simp[hi]))
    ·rename_i fs ht
     split at h
     ·cases h
     ·have e1:isAggT P t=some true:=by simp[isAggT,ht]
      have hv1: ∀us:List Value,valAt P t us= .agg us.toArray:=fun us=>by simp[valAt,e1]
      rw[hv1,Instr.checkKey]
      simp only[Sem.run_bind,run_underlying ht,Result.andThen_ok]
      rw[←Array.forIn_toList]
      have each:=ih.2 fs.toList 0 n h as (by omega) k (by omega)
      generalize fs.toList=L at each
      induction L with
      |nil=>simp
      |cons f L ih'=>
        obtain⟨hn,v,p1,p2⟩:=each f (by simp)
        simp only[List.forIn_cons,Sem.run_bind,hn,ne_eq,not_false_eq_true,if_true,Result.andThen_ok,p1,p2,Sem.run_pure]
        exact ih' (fun y hy=>each y (by simp[hy]))
    ·cases h
   ·cases fs with
    |nil=>intro f hf;simp at hf
    |cons f rest=>
      simp only[pkFs]at h
      split at h
      ·rename_i hf
       split at h
       ·rename_i k1 hk1
        split at h
        ·rename_i hsz
         obtain⟨k2,hk2,rfl⟩:=Option.map_eq_some_iff.1 h
         have hx:=part_pk hk1 hsz as (off:=n0) (by omega) w
         have heq:=ih.1 f.type k1 hk1 ((as.drop n0).take k1) (by simp;omega) k (by omega)
         have hrest:=ih.2 rest (n0+k1) k2 hk2 as (by omega) k (by omega)
         intro g hg
         rcases List.mem_cons.1 hg with rfl|hg
         ·exact⟨hf.1,_,by rw[hf.2];exact hx,heq⟩
         ·exact hrest g hg
        ·cases h
       ·cases h
      ·cases h
def KeyT(P:Program)(t:Option Nat)(k:TypeId):Prop:=(t=none∧P.underlying k=some (.int .i64))∨ ∃n fs,t=some n∧P.underlying k=some (.struct fs)∧pkT P 40 k=some n
theorem mapTag_inv {mt k el:TypeId} {t:Option Nat}(h:mapTag P mt=some (t,k,el)):P.underlying mt=some (.map k el)∧P.underlying el=some (.int .i64)∧KeyT P t k:=by
 unfold mapTag at h
 split at h
 ·rename_i k' el' hm
  split at h
  ·rename_i he
   split at h
   ·rename_i hk
    cases h
    exact⟨hm,he, .inl ⟨rfl,hk⟩⟩
   ·rename_i fs hk
    obtain⟨n,h1,h2⟩:=Option.map_eq_some_iff.1 h
    cases h2
    exact⟨hm,he, .inr ⟨n,fs,rfl,hk,h1⟩⟩
   ·cases h
  ·cases h
 ·cases h
theorem key_equal {t:Option Nat} {k:TypeId}(hk:KeyT P t k) {as bs:List Int}(ha:as.length=t.getD 1)(hb:bs.length=t.getD 1)(w:World):(Op.equal k (keyV t as) (keyV t bs)).run P w= .ok (decide (as=bs)) w:=by
 unfold Op.equal
 rcases hk with ⟨rfl,hu⟩|⟨n,fs,rfl,hu,hp⟩
 ·obtain⟨x,rfl⟩:=List.length_eq_one_iff.1 ha
  obtain⟨y,rfl⟩:=List.length_eq_one_iff.1 hb
  simp only[keyV,List.headD_cons,Op.maxDepth,run_equalIn_int w _ k _ .i64 _ _ hu]
  rw[show(x==y)=decide ([x]=[y])by rw[Bool.eq_iff_iff];simp]
 ·have e1:isAggT P k=some true:=by simp[isAggT,hu]
  have:=(pk_eq (w:=w) 40).1 k n hp as bs ha hb Op.maxDepth (by decide)
  simpa [valAt,e1,keyV]using this
theorem key_check {t:Option Nat} {k:TypeId}(hk:KeyT P t k) {as:List Int}(ha:as.length=t.getD 1)(em:Bool)(w:World):(Instr.checkKey em 10000 k (keyV t as)).run P w= .ok () w:=by
 rcases hk with ⟨rfl,hu⟩|⟨n,fs,rfl,hu,hp⟩
 ·rw[show(10000:Nat)=9999+1 from rfl,Instr.checkKey]
  simp[keyV,run_underlying hu]
 ·have e1:isAggT P k=some true:=by simp[isAggT,hu]
  have:=(pk_check (w:=w) em 40).1 k n hp as ha 10000 (by decide)
  simpa [valAt,e1,keyV]using this
theorem mpEs_len(t:Option Nat): ∀(i:Nat) (kvs:List (List Int×Int)),(mpEs t i kvs).length=kvs.length
 |_,[]=>rfl
 |i,x::r=>by simp[mpEs,mpEs_len t (i+1) r]
theorem asking_ok {t:Option Nat} {k:TypeId}(hk:KeyT P t k) {ns:List Int}(hn:ns.length=t.getD 1)(w:World): ∀(kvs:List (List Int×Int)) (i j:Nat),(∀x,x∈kvs→x.1.length=t.getD 1)→
 (Instr.findAsking k (keyV t ns) (mpEs t i kvs) j).run P w= .ok ((kvGet kvs ns).map fun n=>(j+kvIdx kvs ns,iv n)) w
 |[],i,j,_=>by simp[mpEs,Instr.findAsking,kvGet]
 |x::r,i,j,h=>by
   have ih:=asking_ok hk hn w r (i+1) (j+1) fun y hy=>h y (by simp[hy])
   simp only[mpEs,Instr.findAsking,Sem.run_bind,key_equal hk hn (h x (by simp)),Result.andThen_ok,Sem.run_ite,Sem.run_pure,kvGet,kvIdx,ih]
   by_cases e:ns=x.1
   ·simp[e]
   ·simp only[e,decide_false,Bool.false_eq_true,if_false]
    congr 2
    funext n
    rw[Nat.add_assoc,Nat.add_comm 1]
theorem now_ok(w:World)(a:Int): ∀(kvs:List (List Int×Int)) (i j:Nat),(∀x,x∈kvs→x.1.length=1)→
 Instr.findNow (.int .i64) (iv a) (mpEs none i kvs) j=some ((kvGet kvs [a]).map fun n=>(j+kvIdx kvs [a],iv n))
 |[],i,j,_=>by simp[mpEs,Instr.findNow,kvGet]
 |x::r,i,j,h=>by
   have ih:=now_ok w a r (i+1) (j+1) fun y hy=>h y (by simp[hy])
   obtain⟨b,hb⟩:=List.length_eq_one_iff.1 (h x (by simp))
   simp only[mpEs,Instr.findNow,keyV,hb,List.headD_cons,Instr.sameNow,if_true,kvGet,kvIdx,ih,List.cons.injEq,and_true]
   by_cases e:a=b
   ·simp[e]
   ·simp only[e,beq_eq_false_iff_ne.2 e,if_false]
    congr 2
    funext n
    rw[Nat.add_assoc,Nat.add_comm 1]
theorem find_ok {t:Option Nat} {k:TypeId}(hk:KeyT P t k) {ns:List Int}(hn:ns.length=t.getD 1)(w:World)(kvs:List (List Int×Int))(h: ∀x,x∈kvs→x.1.length=t.getD 1):
 (Instr.findKey k (keyV t ns) (mpEs t 0 kvs)).run P w= .ok ((kvGet kvs ns).map fun n=>(kvIdx kvs ns,iv n)) w:=by
 have hask:=asking_ok hk hn w kvs 0 0 h
 simp only[Nat.zero_add]at hask
 rcases hk with ⟨rfl,hu⟩|⟨n,fs,rfl,hu,hp⟩
 ·obtain⟨a,rfl⟩:=List.length_eq_one_iff.1 hn
  have:=now_ok w a kvs 0 0 h
  simp only[Nat.zero_add]at this
  exact MapKept.run_findKey hu this
 ·cases kvs with
  |nil=>simp[Instr.findKey,run_underlying hu,mpEs,Instr.findNow,kvGet]
  |cons x r=>
    rw[←hask]
    simp[Instr.findKey,run_underlying hu,mpEs,Instr.findNow,Instr.sameNow]
theorem zeroInt_ok {el:TypeId}(h:zeroInt P el=true)(w:World):(zeroValue el).run P w= .ok (iv 0) w:=by
 unfold zeroInt at h
 split at h
 ·rename_i i hi
  split at h
  ·rename_i n hz
   have:n=0:=by simpa using h
   subst this
   simp[zeroValue,typeInfo,hi,hz]
  ·cases h
 ·cases h
theorem lookup_ok {mt k el:TypeId} {t:Option Nat}(hm:mapTag P mt=some (t,k,el))(hz:zeroInt P el=true) {ns:List Int}(hn:ns.length=t.getD 1) {w:World} {kvs:List (List Int×Int)} {b c:Nat}(hb:w.heap[b]? =some (.map (mpEs t 0 kvs).toArray c))
 (h: ∀x,x∈kvs→x.1.length=t.getD 1) (ok:Bool):
 (Instr.lookup mt (.map (some b)) (keyV t ns) ok).run P w= .ok (if ok then .tuple #[iv ((kvGet kvs ns).getD 0), .bool (kvGet kvs ns).isSome]else iv ((kvGet kvs ns).getD 0)) w:=by
 obtain⟨h1,h2,h3⟩:=mapTag_inv hm
 have hf:=find_ok h3 hn w kvs h
 simp only[Instr.lookup,Sem.run_bind,run_underlying h1,Result.andThen_ok,MapKept.run_getObj_map hb,Sem.run_pure,key_check h3 hn,hf]
 cases kvGet kvs ns with
 |none=>simp[zeroInt_ok hz]
 |some n=>simp
theorem kvIdx_lt {kvs:List (List Int×Int)} {ns:List Int} {n:Int}(h:kvGet kvs ns=some n): ∃x,kvs[kvIdx kvs ns]? =some x∧x.1=ns∧x.2=n:=by
 induction kvs with
 |nil=>cases h
 |cons y r ih=>
   simp only[kvGet,kvIdx]at h⊢
   split at h
   ·rename_i e;rw[if_pos e];cases h;exact⟨y,rfl,e.symm,rfl⟩
   ·rename_i e;rw[if_neg e];simpa using ih h
theorem mpEs_get(t:Option Nat): ∀(i:Nat) (kvs:List (List Int×Int)) (j:Nat),(mpEs t i kvs)[j]? =(kvs[j]?).map fun x=>⟨keyV t x.1,iv x.2,i+j⟩
 |_,[],j=>by simp[mpEs]
 |i,x::r,0=>by simp[mpEs]
 |i,x::r,j+1=>by
   simp only[mpEs,List.getElem?_cons_succ,mpEs_get t (i+1) r j]
   congr 1;funext y;congr 1;omega
theorem kvPut_some {kvs:List (List Int×Int)} {ns:List Int} {m:Int}(h:kvGet kvs ns=some m)(n:Int):kvPut kvs ns n=kvs.set (kvIdx kvs ns) (ns,n):=by
 induction kvs with
 |nil=>cases h
 |cons y r ih=>
   simp only[kvGet,kvIdx,kvPut]at h⊢
   split at h
   ·rename_i e;simp[e]
   ·rename_i e;simp[e,ih h]
theorem kvPut_none {kvs:List (List Int×Int)} {ns:List Int}(h:kvGet kvs ns=none)(n:Int):kvPut kvs ns n=kvs ++[(ns,n)]:=by
 induction kvs with
 |nil=>rfl
 |cons y r ih=>
   simp only[kvGet,kvPut]at h⊢
   split at h
   ·cases h
   ·rename_i e;simp[e,ih h]
theorem kvPut_mem {kvs:List (List Int×Int)} {ns:List Int} {n:Int} {x:List Int×Int}(h:x∈kvPut kvs ns n):x∈kvs∨x.1=ns:=by
 induction kvs with
 |nil=>simp[kvPut]at h;exact .inr (by rw[h])
 |cons y r ih=>
   simp only[kvPut]at h
   split at h
   ·rcases List.mem_cons.1 h with rfl|h
    ·exact .inr rfl
    ·exact .inl (by simp[h])
   ·rcases List.mem_cons.1 h with rfl|h
    ·exact .inl (by simp)
    ·rcases ih h with h|h
     ·exact .inl (by simp[h])
     ·exact .inr h
theorem mpEs_set(t:Option Nat)(kvs:List (List Int×Int))(j:Nat)(x:List Int×Int)(hj:j<kvs.length):mpEs t 0 (kvs.set j x)=(mpEs t 0 kvs).set j ⟨keyV t x.1,iv x.2,j⟩:=by
 apply List.ext_getElem?
 intro i
 rw[mpEs_get,List.getElem?_set,List.getElem?_set,mpEs_get,mpEs_len]
 by_cases e:j=i
 ·subst e;simp[hj]
 ·simp[e]
theorem mpEs_push(t:Option Nat)(kvs:List (List Int×Int))(x:List Int×Int):mpEs t 0 (kvs ++[x])=mpEs t 0 kvs ++[⟨keyV t x.1,iv x.2,kvs.length⟩]:=by
 apply List.ext_getElem?
 intro i
 rw[mpEs_get]
 by_cases h:i<kvs.length
 ·rw[List.getElem?_append_left h,List.getElem?_append_left (by rw[mpEs_len];exact h),mpEs_get]
 ·rw[List.getElem?_append_right (by omega),List.getElem?_append_right (by rw[mpEs_len];omega),mpEs_len]
  by_cases h2:i=kvs.length
  ·subst h2;simp
  ·rw[List.getElem?_eq_none (by simp;omega),List.getElem?_eq_none (by simp;omega)];rfl
theorem bits_iv(m:Nat)(a:Int):Instr.sameBits m (iv a) (iv a)=true:=by cases m<;>simp[Instr.sameBits]
theorem bits_all(m:Nat): ∀l:List Int,(((l.map iv).zip (l.map iv)).all fun x=>Instr.sameBits m x.1 x.2)=true
 |[]=>rfl
 |a::r=>by simp only[List.map_cons,List.zip_cons_cons,List.all_cons,bits_iv,bits_all m r,Bool.and_self]
theorem stays_ok(t:Option Nat)(ns:List Int)(w:World):(Instr.keyThatStays (keyV t ns) (keyV t ns)).run P w= .ok (keyV t ns) w:=by
 have:Instr.sameBits 10000 (keyV t ns) (keyV t ns)=true:=by
  cases t with
  |none=>exact bits_iv _ _
  |some n=>
    rw[show(10000:Nat)=9999+1 from rfl]
    simp only[keyV,Instr.sameBits,BEq.rfl,Bool.true_and]
    exact bits_all _ ns
 simp[Instr.keyThatStays,this]
section
variable {K : KK} {s : Stk}
theorem map_put(hS:SR K s w γ) {d l b:Nat} {t t':Option Nat} {kvs kvs':List (List Int×Int)}(hg:sget s d l=some (.mp t kvs))(hb:γ d l=some (.cell b))(hh:w.heap[b]? =some (.map (mpEs t 0 kvs).toArray kvs.length))(hk: ∀x,x∈kvs'→x.1.length=t'.getD 1):
 SR K (sput s d l (.mp t' kvs')) (w.putObj b (.map (mpEs t' 0 kvs').toArray kvs'.length)) γ∧Ext s.length w γ (w.putObj b (.map (mpEs t' 0 kvs').toArray kvs'.length)) γ:=by
 obtain⟨o,ho⟩: ∃o:Obj,o= .map (mpEs t' 0 kvs').toArray kvs'.length:=⟨_,rfl⟩
 rw[←ho]
 have hlt:b<w.heap.size:=(Array.getElem?_eq_some_iff.1 hh).1
 have hx:Ext s.length w γ (w.putObj b o) γ:=by
  refine⟨rfl,rfl,rfl,by simp,Nat.le_refl _,fun _ _ _ _ h=>h,fun _ _ _ _ h=>h,fun _ _ n blk _ h=>⟨n,blk,h, .inl ⟨rfl,rfl⟩⟩,fun _ _ lo N _ f _ h=>⟨lo,N,f,h,Nat.le_refl _,Nat.le_refl _,fun _ _ _=>rfl⟩,fun _ _ n blk _ h=>⟨n,blk,h, .inl ⟨rfl,rfl⟩⟩,?_,fun _ _ _ h=>h,?_,fun _=>rfl,?_⟩
  ·intro b1 off u h hno
   have hne:b1≠b:=by rintro rfl;simp[World.cell?,hh]at h
   rw[←h];exact World.cell?_of_block (World.putObj_heap_other hne)
  ·intro b1 _ hno
   exact World.putObj_heap_other (by rintro rfl;exact hno 0 ⟨d,l,_,hb,rfl⟩)
  ·intro l1 g1 b1 h1 h2
   exact World.putObj_heap_other (by rintro rfl;exact hS.notfrn hb rfl l1 g1 h1 h2)
 refine⟨hS.step (g:= .cell b) (hS.lt hb) hx (set_self hb).symm ⟨b,hb,by rw[World.putObj_heap_same hlt,ho],hk⟩ ?_ ?_,hx⟩
 ·intro d' l' g' b1 hne hg' hb1
  refine World.putObj_heap_other ?_
  rintro rfl
  exact hne (hS.inj d' l' g' d l _ b1 hg' hb hb1 rfl)
 ·intro b1 hb1 d' l' g' hne hg' hb'
  simp[GE.blk]at hb1;subst hb1
  exact hne (hS.inj d' l' g' d l _ b hg' hb hb' rfl)
theorem mp_inv {p:V} {u:Value} {D:Nat} {d l o:Nat}(h:VR D w γ (.mp (.ptr d l o)) u): ∃b,γ d l=some (.cell b)∧u= .map (some b):=by
 cases h with
 |mp _ q h=>
   cases q with
   |none=>cases h
   |some b=>
     cases h with
     |ptr _ _ _ b' hd hb=>exact⟨_,hb,rfl⟩
theorem mp_at(hS:SR K s w γ) {d l o:Nat} {u:Value}(h:VR s.length w γ (.mp (.ptr d l o)) u) {t:Option Nat} {kvs:List (List Int×Int)}(hg:sget s d l=some (.mp t kvs)):
 ∃b,γ d l=some (.cell b)∧u= .map (some b)∧w.heap[b]? =some (.map (mpEs t 0 kvs).toArray kvs.length)∧ ∀x,x∈kvs→x.1.length=t.getD 1:=by
 obtain⟨b,h1,rfl⟩:=mp_inv (p:= .nilp) h
 obtain⟨b',h2,h3,h4⟩:=hS.ent d l _ hg
 rw[h1]at h2;cases h2
 exact⟨b,h1,rfl,h3,h4⟩
theorem mkmap_ok(hS:SR K s w γ)(hs:s≠[]) {lab:Nat}(hn:sget s (dep s) lab=none)(mt:TypeId)(t:Option Nat):
 OpOk K s w γ ((do pure (Next.value (←Instr.makeMap mt none)):Sem Next).run P w) (.mp (.ptr (dep s) lab 0)) (some (dep s,lab, .mp t [])):=by
 have hd:=dep_succ hs
 have hx1:Ext s.length w γ w (γ.set (dep s) lab (.cell w.heap.size)):=Ext.name _ w γ (hS.none _ _ hn) (fun b off h=>by simp[GE.owns]at h;omega)
 have hx:=hx1.trans (Ext.alloc s.length w (γ.set (dep s) lab (.cell w.heap.size)) (.map #[] 0) (hS.frn_set _ _ _))
 refine⟨.map (some w.heap.size),w.alloc (.map #[] 0),γ.set (dep s) lab (.cell w.heap.size), .inl (by simp[Instr.makeMap]), .mp _ (some _) (.ptr _ _ 0 _ (by omega) (G.set_same _ _ _ _)),?_,hx⟩
 refine hS.step (by omega) hx rfl ⟨w.heap.size,G.set_same _ _ _ _,by rw[heap_alloc_new];rfl,by simp⟩ ?_ ?_
 ·intro d' l' g' b _ hg hb
  exact heap_alloc_old w _ b (hS.blk_lt hg hb)
 ·intro b hb d' l' g' _ hg hb'
  simp[GE.blk]at hb
  have:=hS.blk_lt hg hb'
  omega
theorem mget_ok(hS:SR K s w γ) {mt k el:TypeId} {t:Option Nat}(hm:mapTag P mt=some (t,k,el))(hz:zeroInt P el=true) {d l o:Nat} {u uk:Value} {vk:V} {ns:List Int}(h:VR s.length w γ (.mp (.ptr d l o)) u)(hkv:VR s.length w γ vk uk)(hk:keyInts t vk=some ns)
 {kvs:List (List Int×Int)} (hg:sget s d l=some (.mp t kvs)) (ok:Bool):
 OpOk K s w γ ((do pure (Next.value (←Instr.lookup mt u uk ok)):Sem Next).run P w) (if ok then .tup [i64 ((kvGet kvs ns).getD 0), .bool (kvGet kvs ns).isSome]else i64 ((kvGet kvs ns).getD 0)) none:=by
 obtain⟨b,h1,rfl,h3,h4⟩:=mp_at hS h hg
 obtain⟨rfl,hn⟩:=keyInts_vr hk hkv
 have:=lookup_ok hm hz hn h3 h4 ok
 refine⟨_,w,γ, .inl (by simp only[Sem.run_bind,this,Result.andThen_ok,Sem.run_pure];rfl),?_,hS,Ext.refl _ _ _⟩
 cases ok with
 |false=>exact .int _ _
 |true=>exact VR.tup_mk (LR.cons (.int _ _) (LR.cons (.bool _) LR.nil))
theorem modify_at {es:List MapEntry} {i:Nat} {e:MapEntry}(h:es[i]? =some e)(f:MapEntry→MapEntry):es.toArray.modify i f=(es.set i (f e)).toArray:=by
 apply Array.ext_getElem?
 intro j
 simp only[Array.getElem?_modify,List.getElem?_toArray,List.getElem?_set]
 by_cases hj:i=j
 ·subst hj
  obtain⟨h1,h2⟩:=List.getElem?_eq_some_iff.1 h
  simp[h1,h2]
 ·simp[hj]
theorem mput_run {mt k el:TypeId} {t:Option Nat}(hm:mapTag P mt=some (t,k,el)) {ns:List Int}(hn:ns.length=t.getD 1) {kvs:List (List Int×Int)} {b:Nat}(hb:w.heap[b]? =some (.map (mpEs t 0 kvs).toArray kvs.length))(h: ∀x,x∈kvs→x.1.length=t.getD 1)(n:Int):
 (Instr.mapUpdate mt (.map (some b)) (keyV t ns) (iv n)).run P w= .ok () (w.putObj b (.map (mpEs t 0 (kvPut kvs ns n)).toArray (kvPut kvs ns n).length)):=by
 obtain⟨h1,h2,h3⟩:=mapTag_inv hm
 have hf:=find_ok h3 hn w kvs h
 simp only[Instr.mapUpdate,Sem.run_bind,run_underlying h1,Result.andThen_ok,MapKept.run_getObj_map hb,key_check h3 hn,hf]
 cases hg:kvGet kvs ns with
 |none=>
   simp only[Option.map_none,MapKept.run_setObj_map _ hb,kvPut_none hg,mpEs_push,List.length_append,List.length_singleton,List.push_toArray]
   rfl
 |some m=>
   obtain⟨x,hx,rfl,rfl⟩:=kvIdx_lt hg
   have hlt:=(List.getElem?_eq_some_iff.1 hx).1
   have hget:(mpEs t 0 kvs)[kvIdx kvs x.1]? =some ⟨keyV t x.1,iv x.2,kvIdx kvs x.1⟩:=by simp[mpEs_get,hx]
   simp only[Option.map_some,List.getElem?_toArray,hget,Option.getD_some,Sem.run_bind,stays_ok,Result.andThen_ok,MapKept.run_setObj_map _ hb,kvPut_some hg,List.length_set,mpEs_set t kvs _ (x.1,n) hlt,modify_at hget]
   rfl
theorem ment_run {mt k el:TypeId} {t:Option Nat}(hm:mapTag P mt=some (t,k,el))(hz:zeroInt P el=true) {ns:List Int}(hn:ns.length=t.getD 1) {kvs:List (List Int×Int)} {b:Nat}(hb:w.heap[b]? =some (.map (mpEs t 0 kvs).toArray kvs.length))(h: ∀x,x∈kvs→x.1.length=t.getD 1):
 (Instr.mapEntry mt (.map (some b)) (keyV t ns)).run P w= .ok (.tuple #[iv ((kvGet kvs ns).getD 0),iv (kvIdx kvs ns)]) (w.putObj b (.map (mpEs t 0 (kvPut kvs ns ((kvGet kvs ns).getD 0))).toArray (kvPut kvs ns ((kvGet kvs ns).getD 0)).length)):=by
 obtain⟨h1,h2,h3⟩:=mapTag_inv hm
 have hf:=find_ok h3 hn w kvs h
 simp only[Instr.mapEntry,Sem.run_bind,run_underlying h1,Result.andThen_ok,MapKept.run_getObj_map hb,key_check h3 hn,hf]
 cases hg:kvGet kvs ns with
 |none=>
   have hi: ∀l:List (List Int×Int),kvGet l ns=none→kvIdx l ns=l.length:=by
    intro l
    induction l with
    |nil=>intro _;rfl
    |cons y r ih=>
      intro h
      simp only[kvGet]at h
      split at h
      ·cases h
      ·rename_i e;simp[kvIdx,e,ih h]
   simp only[Option.map_none,Sem.run_bind,zeroInt_ok hz,Result.andThen_ok,Sem.run_pure,MapKept.run_setObj_map _ hb,kvPut_none hg,mpEs_push,List.length_append,List.length_singleton,List.push_toArray,Option.getD_none,hi kvs hg]
   rfl
 |some m=>
   obtain⟨x,hx,rfl,rfl⟩:=kvIdx_lt hg
   have hlt:=(List.getElem?_eq_some_iff.1 hx).1
   have hget:(mpEs t 0 kvs)[kvIdx kvs x.1]? =some ⟨keyV t x.1,iv x.2,kvIdx kvs x.1⟩:=by simp[mpEs_get,hx]
   simp only[Option.map_some,List.getElem?_toArray,hget,Option.getD_some,Sem.run_bind,stays_ok,Result.andThen_ok,MapKept.run_setObj_map _ hb,kvPut_some hg,List.length_set,mpEs_set t kvs _ (x.1,x.2) hlt,modify_at hget,Sem.run_pure]
   rfl
theorem find_born(t:Option Nat)(kvs:List (List Int×Int)) {j:Nat}(hj:j<kvs.length):(mpEs t 0 kvs).toArray.findIdx? (fun e=>(e.born:Int)==(j:Int))=some j:=by
 rw[List.findIdx?_toArray,List.findIdx?_eq_some_iff_getElem]
 refine⟨by rw[mpEs_len];exact hj,?_,fun i hi=> ?_⟩
 ·have:=mpEs_get t 0 kvs j
  rw[List.getElem?_eq_getElem (by rw[mpEs_len];exact hj),List.getElem?_eq_getElem hj]at this
  simp only[Option.map_some,Option.some.injEq]at this
  simp[this]
 ·have:=mpEs_get t 0 kvs i
  rw[List.getElem?_eq_getElem (by rw[mpEs_len];omega),List.getElem?_eq_getElem (by omega)]at this
  simp only[Option.map_some,Option.some.injEq]at this
  simp[this];omega
theorem mest_run {mt:TypeId} {t:Option Nat} {kvs:List (List Int×Int)} {b:Nat}(hb:w.heap[b]? =some (.map (mpEs t 0 kvs).toArray kvs.length)) {j:Nat}(hj:j<kvs.length)(n:Int):
 (Instr.entryStore mt (.map (some b)) (iv j) (iv n)).run P w= .ok () (w.putObj b (.map (mpEs t 0 (kvSet kvs j n)).toArray (kvSet kvs j n).length)):=by
 have hx:kvs[j]? =some kvs[j]:=by simp
 have hget:(mpEs t 0 kvs)[j]? =some ⟨keyV t kvs[j].1,iv kvs[j].2,j⟩:=by simp[mpEs_get,hx]
 have hset:kvSet kvs j n=kvs.set j (kvs[j].1,n):=by
  unfold kvSet
  apply List.ext_getElem?
  intro i
  rw[List.getElem?_modify,List.getElem?_set]
  by_cases e:j=i
  ·subst e;simp[hj]
  ·simp[e]
 simp only[Instr.entryStore,Sem.run_bind,Result.andThen_ok,MapKept.run_getObj_map hb,asInt,asIntOf,Sem.run_pure,find_born t kvs hj,MapKept.run_setObj_map _ hb,modify_at hget,hset,List.length_set,mpEs_set t kvs _ (kvs[j].1,n) hj]
 rfl
theorem mput_ok(hS:SR K s w γ) {mt k el:TypeId} {t:Option Nat}(hm:mapTag P mt=some (t,k,el)) {d l o:Nat} {u uk:Value} {vk:V} {ns:List Int} {n:Int}(h:VR s.length w γ (.mp (.ptr d l o)) u)(hkv:VR s.length w γ vk uk)(hk:keyInts t vk=some ns)
 {kvs:List (List Int×Int)} (hg:sget s d l=some (.mp t kvs)):
 OpOk K s w γ ((do Instr.mapUpdate mt u uk (iv n);pure Next.skip:Sem Next).run P w) .undef (some (d,l, .mp t (kvPut kvs ns n))):=by
 obtain⟨b,h1,rfl,h3,h4⟩:=mp_at hS h hg
 obtain⟨rfl,hn⟩:=keyInts_vr hk hkv
 obtain⟨q1,q2⟩:=map_put hS hg h1 h3 (t':=t) (kvs':=kvPut kvs ns n) fun x hx=>by
  rcases kvPut_mem hx with hx|hx
  ·exact h4 x hx
  ·rw[hx,hn]
 exact⟨undef,_,γ, .inr ⟨by simp only[Sem.run_bind,mput_run hm hn h3 h4 n,Result.andThen_ok,Sem.run_pure],rfl⟩, .undef _,q1,q2⟩
theorem ment_ok(hS:SR K s w γ) {mt k el:TypeId} {t:Option Nat}(hm:mapTag P mt=some (t,k,el))(hz:zeroInt P el=true) {d l o:Nat} {u uk:Value} {vk:V} {ns:List Int}(h:VR s.length w γ (.mp (.ptr d l o)) u)(hkv:VR s.length w γ vk uk)(hk:keyInts t vk=some ns)
 {kvs:List (List Int×Int)} (hg:sget s d l=some (.mp t kvs)):
 OpOk K s w γ ((do pure (Next.value (←Instr.mapEntry mt u uk)):Sem Next).run P w) (.tup [i64 ((kvGet kvs ns).getD 0),i64 (kvIdx kvs ns)]) (some (d,l, .mp t (kvPut kvs ns ((kvGet kvs ns).getD 0)))):=by
 obtain⟨b,h1,rfl,h3,h4⟩:=mp_at hS h hg
 obtain⟨rfl,hn⟩:=keyInts_vr hk hkv
 obtain⟨q1,q2⟩:=map_put hS hg h1 h3 (t':=t) (kvs':=kvPut kvs ns ((kvGet kvs ns).getD 0)) fun x hx=>by
  rcases kvPut_mem hx with hx|hx
  ·exact h4 x hx
  ·rw[hx,hn]
 exact⟨_,_,γ, .inl (by simp only[Sem.run_bind,ment_run hm hz hn h3 h4,Result.andThen_ok,Sem.run_pure]),VR.tup_mk (LR.cons (.int _ _) (LR.cons (.int _ _) LR.nil)),q1,q2⟩
theorem mest_ok(hS:SR K s w γ) {mt:TypeId} {t:Option Nat} {d l o:Nat} {u:Value} {j n:Int}(h:VR s.length w γ (.mp (.ptr d l o)) u)
 {kvs:List (List Int×Int)} (hg:sget s d l=some (.mp t kvs)) (hj:0≤j∧j<kvs.length):
 OpOk K s w γ ((do Instr.entryStore mt u (iv j) (iv n);pure Next.skip:Sem Next).run P w) .undef (some (d,l, .mp t (kvSet kvs j.toNat n))):=by
 obtain⟨b,h1,rfl,h3,h4⟩:=mp_at hS h hg
 obtain⟨i,rfl⟩: ∃i:Nat,j=i:=⟨j.toNat,by omega⟩
 have hi:i<kvs.length:=by omega
 obtain⟨q1,q2⟩:=map_put hS hg h1 h3 (t':=t) (kvs':=kvSet kvs i n) fun x hx=>by
  unfold kvSet at hx
  obtain⟨m,hm⟩:=List.mem_iff_getElem?.1 hx
  rw[List.getElem?_modify]at hm
  obtain⟨y,hy,e⟩:=Option.map_eq_some_iff.1 hm
  have:=h4 y (List.mem_of_getElem? hy)
  subst e
  split<;>exact this
 simp only[Int.toNat_natCast]
 exact⟨undef,_,γ, .inr ⟨by simp only[Sem.run_bind,mest_run h3 hi n,Result.andThen_ok,Sem.run_pure],rfl⟩, .undef _,q1,q2⟩
end
end
end Go.Ab

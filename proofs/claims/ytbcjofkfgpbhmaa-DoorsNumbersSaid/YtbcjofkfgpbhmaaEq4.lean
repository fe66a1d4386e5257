/-
  DoorsNumbers: its equation.
-/
import Derived.Test.YtbcjofkfgpbhmaaEq3
import Derived.Test.YtbcjofkfgpbhmaaEq1
set_option linter.unusedSimpArgs false
set_option linter.unusedVariables false
namespace Go.Proofs.Ytbcjofkfgpbhmaa
open Go.Ab
set_option maxHeartbeats 8000000 in
theorem num_l2(t:DTrap)(h:DoorOk t)(bq group:Int)(gs:List DGate)(s:Stk):
 Run T b13l2 [(2,i64 group),(3, .ptr s.length 48 0),(7, .asl s.length 768 1 t.chambers.toNat 0 t.chambers.toNat),(9, .ptr s.length 144 0),(12,i64 0)] (numFr t s.length (othL t bq) gs t.groups::s)=
  some (.exit 4,[(2,i64 group),(3, .ptr s.length 48 0),(7, .asl s.length 768 1 t.chambers.toNat 0 t.chambers.toNat),(9, .ptr s.length 144 0),(12,i64 t.groups.length),(109, .bool false)],numFr t s.length (othL t bq) gs (t.groups.map fun g=>⟨otherF t.chambers.toNat bq g.pos,g.fish⟩)::s):=by
 have hch:=h.ch
 have hgl:=h.ol
 have e:=set_all (fun k=>(⟨otherF t.chambers.toNat bq (t.groups.getD k default).pos,(t.groups.getD k default).fish⟩:DGroup)) t.groups
 have e2:(List.range t.groups.length).map (fun k=>(⟨otherF t.chambers.toNat bq (t.groups.getD k default).pos,(t.groups.getD k default).fish⟩:DGroup))=t.groups.map fun g=>⟨otherF t.chambers.toNat bq g.pos,g.fish⟩:=by
  apply List.ext_getElem (by simp)
  intro i h1 h2
  have hi:i<t.groups.length:=by simpa using h1
  simp[List.getD,hi]
 rw[←e2,←e]
 have hOl:=oth_len t bq
 have hOg:=oth_get t bq
 generalize othL t bq=O at*
 obtain⟨N,hN⟩: ∃N:Nat,t.chambers.toNat=N:=⟨_,rfl⟩
 have hNc:t.chambers=(N:Int):=by omega
 clear e2 e
 simp only[hN]at*
 refine loop_fold (T:=Go.Proofs.Ytbcjofkfgpbhmaa.T) (live:=[2,3,7,9,12]) (keep:=[48,144,768,1200,2200]) (b:=d13l2) (List.range t.groups.length) (fun _ (a:List DGroup)=>a.length=t.groups.length) (fun a k=>a.set k (⟨otherF N bq (t.groups.getD k default).pos,(t.groups.getD k default).fish⟩:DGroup))
  (fun k _=>[(2,i64 group),(3, .ptr s.length 48 0),(7, .asl s.length 768 1 N 0 N),(9, .ptr s.length 144 0),(12,i64 (k:Nat))]) (fun _ a=>numFr t s.length O gs a::s)
  (fun a=>(.exit 4,[(2,i64 group),(3, .ptr s.length 48 0),(7, .asl s.length 768 1 N 0 N),(9, .ptr s.length 144 0),(12,i64 t.groups.length),(109, .bool false)],numFr t s.length O gs a::s))
  (by simp) ?_ ?_ ?_ t.groups rfl _ _ (by simp) (by simp)
 ·intro k a hk hi
  simp only[List.length_range]at hk
  simp only[List.getElem_range]
  have hk2:(k:Int)<t.groups.length:=by omega
  obtain⟨q1,q2⟩:=h.groups _ (List.getElem_mem hk)
  have eg:t.groups.getD k default=t.groups[k]:=by simp[List.getD,hk]
  rw[eg]
  generalize hG:t.groups[k]=G at*
  obtain⟨ga,gf⟩:=G
  simp only at q1 q2⊢
  obtain⟨ja,rfl⟩: ∃j:Nat,ga=j:=⟨ga.toNat,by omega⟩
  have ja1:ja<O.length:=by omega
  have ja2:ja<N:=by omega
  have ja3:(ja:Int)<N:=by omega
  have oa:=hOg ja ja1
  have es1:(es cGroup a).set k [i64 (otherF N bq (ja:Nat)),i64 gf]=es cGroup (a.set k ⟨otherF N bq (ja:Nat),gf⟩):=es_set cGroup a k ⟨otherF N bq (ja:Nat),gf⟩
  generalize hfa:otherF N bq (ja:Nat)=fa at*
  clear hOg
  simp (maxSteps:=1000000) (disch:=first|omega|assumption|decide +kernel|(simp;done)|(simp;omega)|fail) [run_drawnK,orSlow_none,hk,hk2,hi,hG,hOl,ja1,ja2,ja3,oa,es1,wk k (by omega)]
 ·intro k a hk hi
  simp[hi]
 ·intro a hi
  simp[hi]
set_option maxHeartbeats 8000000 in
theorem e_DoorsNumbers(t:DTrap)(hs:ShortD t)(bq group:Int)(lab s):den T 13 [.agg (dV t),i64 bq,i64 group] lab s=some (.bool true,s):=by
 have hrd:=fun lab s=>e_readyD t hs lab s
 have hwo:=fun lab s=>e_worksD lab s
 cases hr:readyD t<;>rw[hr]at hrd
 ·rw[den_fn t13 _ _ _ rfl]
  simp only[b13]
  simp (maxSteps:=1000000) (disch:=first|omega|assumption|decide +kernel|(simp;done)|(simp;omega)|fail) [hrd,hwo]
 have h:=readyD_ok hr
 by_cases hb0:bq<0
 ·rw[den_fn t13 _ _ _ rfl]
  simp only[b13]
  simp (maxSteps:=1000000) (disch:=first|omega|assumption|decide +kernel|(simp;done)|(simp;omega)|fail) [hrd,hwo,hb0]
 by_cases hb1:100<bq
 ·rw[den_fn t13 _ _ _ rfl]
  simp only[b13]
  simp (maxSteps:=1000000) (disch:=first|omega|assumption|decide +kernel|(simp;done)|(simp;omega)|fail) [hrd,hwo,hb0,hb1]
 by_cases hc:t.chambers<2
 ·rw[den_fn t13 _ _ _ rfl]
  simp only[b13]
  simp (maxSteps:=1000000) (disch:=first|omega|assumption|decide +kernel|(simp;done)|(simp;omega)|fail) [hrd,hwo,hb0,hb1,hc]
 have hig:=fun lab s=>e_IsGroup t hs group lab s
 cases hg:wiB group 0 (t.groups.length-1)<;>rw[hg]at hig
 ·rw[den_fn t13 _ _ _ rfl]
  simp only[b13]
  simp (maxSteps:=1000000) (disch:=first|omega|assumption|decide +kernel|(simp;done)|(simp;omega)|fail) [hrd,hwo,hb0,hb1,hc,hig]
 have hgb:0≤group∧group≤t.groups.length-1:=by simpa [wiB]using hg
 have hch:=h.ch
 have hgl:=h.gl
 have hol:=h.ol
 have hl0:=num_l0 t h bq group (by omega) (by omega) s
 have hl1:=num_l1 t h bq group s
 have hl2:=num_l2 t h bq group (t.gates.map (numG (otherF t.chambers.toNat bq))) s
 have hnum:=other_num (n:=t.chambers.toNat) (bq:=bq) (by omega) (by omega)
 have hont:=other_onto (n:=t.chambers.toNat) (bq:=bq) (by omega) (by omega)
 have ho:=num_ok h hnum
 have hs2:=doorB_short (doorB_iff.2 ho)
 have hcp:=fun lab loc s k0 k1=>e_CopyD t hs lab loc s k0 k1
 have hb1':=fun lab s=>e_Blind t hs lab s
 have hb2':=fun lab s=>e_Blind (numT t (otherF t.chambers.toNat bq)) hs2 lab s
 have hc1':=fun lab s=>e_Catch t hs group lab s
 have hc2':=fun lab s=>e_Catch (numT t (otherF t.chambers.toNat bq)) hs2 group lab s
 have hw1':=fun lab s=>e_worthL t h lab s
 have hw2':=fun lab s=>e_worthL (numT t (otherF t.chambers.toNat bq)) ho lab s
 have eb1:blindR t=(blindT t t.turns.toNat,0):=by unfold blindR;rw[if_pos (doorB_iff.2 h)]
 have eb2:blindR (numT t (otherF t.chambers.toNat bq))=(blindT t t.turns.toNat,0):=by unfold blindR;rw[if_pos (doorB_iff.2 ho)];exact congrArg (·,0) (num_blind h hnum hont _)
 have ec1:catchR t group=(catchV t (posOf t group),0):=by unfold catchR;rw[if_pos (doorB_iff.2 h),if_pos hg]
 have ec2:catchR (numT t (otherF t.chambers.toNat bq)) group=(catchV t (posOf t group),0):=by
  unfold catchR
  have e1:(numT t (otherF t.chambers.toNat bq)).groups.length=t.groups.length:=by simp[numT]
  rw[if_pos (doorB_iff.2 ho),e1,if_pos hg]
  obtain⟨i,rfl⟩: ∃i:Nat,group=i:=⟨group.toNat,by omega⟩
  exact congrArg (·,0) (num_catch h hnum (by omega))
 have ew2:worthT (numT t (otherF t.chambers.toNat bq)) (numT t (otherF t.chambers.toNat bq)).turns.toNat=worthT t t.turns.toNat:=num_worth h hnum _
 rw[eb1]at hb1'
 rw[eb2]at hb2'
 rw[ec1]at hc1'
 rw[ec2]at hc2'
 rw[ew2]at hw2'
 simp only at hb1' hb2' hc1' hc2'
 have h0:=worthT_nonneg h t.turns.toNat
 have er:=es_rep cInt t.chambers.toNat 0
 change List.replicate t.chambers.toNat [i64 0]=_ at er
 rw[←er]at hl0
 have dn:dV (numT t (otherF t.chambers.toNat bq))=[i64 t.chambers,i64 t.turns,i64 t.hands, .sl .no 3 (es cGate (t.gates.map (numG (otherF t.chambers.toNat bq)))), .sl .no 2 (es cGroup (t.groups.map fun g=>⟨otherF t.chambers.toNat bq g.pos,g.fish⟩))]:=rfl
 rw[dn]at hb2' hc2' hw2'
 have lg:(t.gates.map (numG (otherF t.chambers.toNat bq))).length=t.gates.length:=by simp
 have lr:(t.groups.map fun g=>(⟨otherF t.chambers.toNat bq g.pos,g.fish⟩:DGroup)).length=t.groups.length:=by simp
 clear eb1 eb2 ec1 ec2 ew2 er dn ho hs2 hnum hont
 generalize worthT t t.turns.toNat=w at*
 generalize blindT t t.turns.toNat=bl at*
 generalize catchV t (posOf t group)=cv at*
 generalize t.gates.map (numG (otherF t.chambers.toNat bq))=gs2 at*
 generalize (t.groups.map fun g=>(⟨otherF t.chambers.toNat bq g.pos,g.fish⟩:DGroup))=rs2 at*
 generalize othL t bq=O at*
 obtain⟨N,hN⟩: ∃N:Nat,t.chambers.toNat=N:=⟨_,rfl⟩
 have hNc:0≤t.chambers:=by omega
 have hN2:t.chambers<140737488355328:=by omega
 have hN3:t.chambers*8≤140737488355328:=by omega
 rw[hN]at hl0 hl1 hl2
 have tk1:(es cGate gs2).take t.gates.length=es cGate gs2:=List.take_of_length_le (by simp[lg])
 have tk2:(es cGroup rs2).take t.groups.length=es cGroup rs2:=List.take_of_length_le (by simp[lr])
 rw[den_fn t13 _ _ _ rfl]
 simp only[b13]
 simp (maxSteps:=1000000) (disch:=first|omega|assumption|decide +kernel|(simp;done)|(simp;omega)|fail) [run_drawnK,orSlow_none,hrd,hwo,hb0,hb1,hc,hig,hN,hNc,hN2,hN3,hl0,hl1,hl2,hcp,hb1',hb2',hc1',hc2',hw1',hw2',h0,lg,lr,tk1,tk2]
end Go.Proofs.Ytbcjofkfgpbhmaa

/-
  What the arguments of the laws of doors read as.
-/
namespace Go.Proofs.Ytbcjofkfgpbhmaa
open Go.Ab
set_option maxRecDepth 100000
theorem cells48:Try.prog.cellsOf 48=3:=by kernel_rfl
theorem cells39:Try.prog.cellsOf 39=2:=by kernel_rfl
variable {B : TypeId → Nat → Prop} {n : Nat} {vs : List V}
theorem fit_int(h:Fit Try.prog B (n+1) 3 vs): ∃x,vs=[i64 x]:=by
 simp only[Fit,Try.underlying3]at h
 exact h
theorem fit_bool(h:Fit Try.prog B (n+1) 4 vs): ∃x,vs=[.bool x]:=by
 simp only[Fit,Try.underlying4]at h
 exact h
theorem es_all {α:Type} {f:α→List V}(l:List (List V))(h: ∀x∈l,∃y,x=f y): ∃l':List α,l=es f l':=by
 obtain⟨l',h1,_⟩:=es_of (Q:=fun _=>True) l fun x hx=>by obtain⟨y,hy⟩:=h x hx;exact⟨y,hy,trivial⟩
 exact⟨l',h1⟩
theorem fit_gate(h:Fit Try.prog B (n+2) 48 vs): ∃g:DGate,vs=cGate g:=by
 rw[Fit,Try.underlying48]at h
 simp only[FitF]at h
 obtain⟨_,_,rfl,h0,_,_,rfl,h1,_,_,rfl,h2,rfl⟩:=h
 obtain⟨a,rfl⟩:=fit_int h0
 obtain⟨b,rfl⟩:=fit_int h1
 obtain⟨c,rfl⟩:=fit_bool h2
 exact⟨⟨a,b,c⟩,rfl⟩
theorem fit_group(h:Fit Try.prog B (n+2) 39 vs): ∃g:DGroup,vs=cGroup g:=by
 rw[Fit,Try.underlying39]at h
 simp only[FitF]at h
 obtain⟨_,_,rfl,h0,_,_,rfl,h1,rfl⟩:=h
 obtain⟨a,rfl⟩:=fit_int h0
 obtain⟨b,rfl⟩:=fit_int h1
 exact⟨⟨a,b⟩,rfl⟩
theorem fit_gates(h:Fit Try.prog B (n+3) 22 vs): ∃l:List DGate,vs=[.sl .no 3 (es cGate l)]∧B 48 l.length:=by
 rw[Fit,Try.underlying22]at h
 simp only at h
 obtain⟨l,rfl,hb,h⟩:=h
 obtain⟨l',rfl⟩:=es_all (f:=cGate) l fun x hx=>fit_gate (h x hx)
 rw[cells48]
 exact⟨l',rfl,by simpa using hb⟩
theorem fit_groups(h:Fit Try.prog B (n+3) 23 vs): ∃l:List DGroup,vs=[.sl .no 2 (es cGroup l)]∧B 39 l.length:=by
 rw[Fit,Try.underlying23]at h
 simp only at h
 obtain⟨l,rfl,hb,h⟩:=h
 obtain⟨l',rfl⟩:=es_all (f:=cGroup) l fun x hx=>fit_group (h x hx)
 rw[cells39]
 exact⟨l',rfl,by simpa using hb⟩
def Reach(e:TypeId)(k:Nat):Prop:=k≤maxLen∧k*Try.prog.bytesOf e≤reachBytes
theorem bytes48:Try.prog.bytesOf 48=24:=by kernel_rfl
theorem bytes39:Try.prog.bytesOf 39=16:=by kernel_rfl
theorem fit_trap(h:Fit Try.prog Reach (n+4) 25 vs): ∃t:DTrap,vs=dV t∧ShortD t:=by
 rw[Fit,Try.underlying25]at h
 simp only[FitF]at h
 obtain⟨_,_,rfl,h0,_,_,rfl,h1,_,_,rfl,h2,_,_,rfl,h3,_,_,rfl,h4,rfl⟩:=h
 obtain⟨a,rfl⟩:=fit_int h0
 obtain⟨b,rfl⟩:=fit_int h1
 obtain⟨c,rfl⟩:=fit_int h2
 obtain⟨d,rfl,q1⟩:=fit_gates h3
 obtain⟨e,rfl,q2⟩:=fit_groups h4
 simp only[Reach,bytes48,bytes39,reachBytes]at q1 q2
 exact⟨⟨a,b,c,d,e⟩,rfl,by simp only;omega,by simp only;omega⟩
end Go.Proofs.Ytbcjofkfgpbhmaa

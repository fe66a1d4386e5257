/-
  Doors: Play.
-/
import Derived.Test.YtbcjofkfgpbhmaaEq3
import Derived.Test.YtbcjofkfgpbhmaaEq1
set_option linter.unusedSimpArgs false
set_option linter.unusedVariables false
namespace Go.Proofs.Ytbcjofkfgpbhmaa
open Go.Ab
set_option maxHeartbeats 16000000 in
theorem e_Play(t:DTrap)(hs:ShortD t)(C M:List (List Int))(hc40:C.length≤40)(hm40:M.length≤40)(hc: ∀x∈C,x.length≤40)(hm: ∀x∈M,x.length≤40)(lab s):
 den T 56 [.agg (dV t), .sl .no 1 (es cInts C), .sl .no 1 (es cInts M)] lab s=some (.tup [.agg (dV (playR t C M).1),i64 (playR t C M).2],s):=by
 unfold playR
 cases h:doorB t
 ·have hb:=fun b lab loc s=>e_begin_bad t hs h b lab loc s
  simp only[Bool.false_eq_true,if_false,dV_zero]
  rw[den_fn t56 _ _ _ rfl]
  simp only[b56]
  simp (maxSteps:=1000000) (disch:=first|omega|assumption|decide +kernel|(simp;done)|(simp;omega)|fail) [run_drawnK,orSlow_none,hb]
 have ho:=doorB_iff.1 h
 have htu:=ho.tu
 by_cases hl:C.length=M.length
 rotate_left
 ·have hl': ¬(C.length:Int)=M.length:=by omega
  have hb:=fun lab loc s=>e_begin_arg t ho lab loc s
  simp only[if_true,if_neg hl,dV_zero]
  rw[den_fn t56 _ _ _ rfl]
  simp only[b56]
  simp (maxSteps:=1000000) (disch:=first|omega|assumption|decide +kernel|(simp;done)|(simp;omega)|fail) [run_drawnK,orSlow_none,hb,hl']
 have hl':(C.length:Int)=M.length:=by omega
 have hb:=fun lab loc k0 k1=>e_begin t ho lab loc s k0 k1
 simp only[scene0]at hb
 by_cases hT:(C.length:Int)≤t.turns
 rotate_left
 ·have hT':t.turns<(M.length:Int):=by omega
  simp only[if_true,if_pos hl,if_neg hT,dV_zero]
  rw[den_fn t56 _ _ _ rfl]
  simp only[b56]
  simp (maxSteps:=1000000) (disch:=first|omega|assumption|decide +kernel|(simp;done)|(simp;omega)|fail) [run_drawnK,orSlow_none,hb,hl',hT']
 have hT': ¬t.turns<(M.length:Int):=by omega
 have wt:IntKind.i64.wrap (t.turns-M.length)=t.turns-M.length:=wi _ (by omega) (by omega)
 obtain⟨⟨g,hg⟩,hlp⟩:=play_l0 t ho C M hl hT hc hm t.turns _ (playI_0 ho) s
 obtain⟨r1,r2⟩:=playF_rel (C:=C) (M:=M) (playI_0 ho) hT
 rw[r1]at hlp
 simp only[nAt,gN,playFr,sceneL,List.map_cons,List.map_nil,zeroT]at hlp
 by_cases hbp:(playF t C M).2=true
 rotate_left
 ·rw[if_neg hbp]at hlp
  simp only[if_true,if_pos hl,if_pos hT,if_neg hbp,dV_zero]
  rw[hl']at hlp
  rw[den_fn t56 _ _ _ rfl]
  simp only[b56]
  simp (maxSteps:=1000000) (disch:=first|omega|assumption|decide +kernel|(simp;done)|(simp;omega)|fail) [run_drawnK,orSlow_none,hb,hl',hT',hlp,hg]
 have hI:=r2 hbp
 rw[if_pos hbp]at hlp
 simp only[if_true,if_pos hl,if_pos hT,if_pos hbp]
 rw[←playOut_eq hI]
 have hon:=hI.o
 have hnn:=hI.n
 simp only[nAt,gN]at hon hnn⊢
 generalize (foldB (plStep t C M) (List.range C.length) (gateBits t.gates,[at0 t 0,at0 t 1,at0 t 2])).1=a at*
 obtain⟨o,n⟩:=a
 obtain⟨x0,x1,x2,rfl⟩: ∃x0 x1 x2,n=[x0,x1,x2]:=by
  match n,hnn with
  |[x0,x1,x2],_=>exact⟨x0,x1,x2,rfl⟩
 simp only at hlp hon⊢
 rw[hl']at hlp
 have hgl:=ho.gl
 have hol:=ho.ol
 unfold playOut
 have h2:=fun rs=>play_l2 t ho (t.turns-M.length) t.turns o hon [x0,x1,x2] rs s
 have h2e:=play_l2e t ho (t.turns-M.length) t.turns o hon [x0,x1,x2] s
 have h3:=fun gs=>play_l3 t ho (t.turns-M.length) t.turns o x0 x1 x2 gs s
 have h3e:=play_l3e t ho (t.turns-M.length) t.turns o x0 x1 x2 s
 have h2s:=fun rs=>play_l2s t (t.turns-M.length) t.turns o [x0,x1,x2] rs s
 have h2c:=play_l2c t (t.turns-M.length) t.turns o [x0,x1,x2] s
 have h3s:=fun gs=>play_l3s t (t.turns-M.length) t.turns o [x0,x1,x2] gs s
 have h3c:=play_l3c t (t.turns-M.length) t.turns o [x0,x1,x2] s
 have cg:=fun(e: ¬t.gates=[]) F lab k=>e_CloneG t.gates e (by omega) F s lab k
 have cp:=fun(e: ¬t.groups=[]) F lab k=>e_CloneP t.groups e (by omega) F s lab k
 have cg0:=fun F lab=>e_CloneG0 F s lab
 have cp0:=fun F lab=>e_CloneP0 F s lab
 simp only[plFr,plFrA,plFrB,plFrC,zeroT,sceneL,List.map_cons,List.map_nil]at h2 h2e h3 h3e h2s h2c h3s h3c
 have tk1:(openG o t.gates).take t.gates.length=openG o t.gates:=List.take_of_length_le (by simp)
 have tk2:(movedG [x0,x1,x2] 0 t.groups).take t.groups.length=movedG [x0,x1,x2] 0 t.groups:=List.take_of_length_le (by simp)
 by_cases eg:t.gates=[]
 ·have eg1:es cGate t.gates=[]:=by rw[eg];rfl
  have eg2:t.gates.length=0:=by rw[eg];rfl
  have eg3:openG o t.gates=[]:=by rw[eg];rfl
  by_cases ep:t.groups=[]
  ·have ep1:es cGroup t.groups=[]:=by rw[ep];rfl
   have ep2:t.groups.length=0:=by rw[ep];rfl
   have ep3:movedG [x0,x1,x2] 0 t.groups=[]:=by rw[ep];rfl
   simp only[dV,eg1,ep1]at hb hlp
   simp only[dV,eg1,ep1,eg3,ep3,es_nil]
   rw[den_fn t56 _ _ _ rfl]
   simp only[b56]
   simp (maxSteps:=1000000) (disch:=first|omega|assumption|decide +kernel|(simp;done)|(simp;omega)|fail) [run_drawnK,orSlow_none,hb,hl',hT',hlp,wt,cg0,cp0,h2c,h3c]
  ·have cp1:=cp ep
   simp only[dV,eg1]at hb hlp
   simp only[dV,eg1,eg3,es_nil]
   rw[den_fn t56 _ _ _ rfl]
   simp only[b56]
   simp (maxSteps:=1000000) (disch:=first|omega|assumption|decide +kernel|(simp;done)|(simp;omega)|fail) [run_drawnK,orSlow_none,hb,hl',hT',hlp,wt,cg0,cp1,h2s,h3,h3e,tk2]
 ·by_cases ep:t.groups=[]
  ·have cg1:=cg eg
   have ep1:es cGroup t.groups=[]:=by rw[ep];rfl
   have ep2:t.groups.length=0:=by rw[ep];rfl
   have ep3:movedG [x0,x1,x2] 0 t.groups=[]:=by rw[ep];rfl
   simp only[dV,ep1]at hb hlp
   simp only[dV,ep1,ep3,es_nil]
   rw[den_fn t56 _ _ _ rfl]
   simp only[b56]
   simp (maxSteps:=1000000) (disch:=first|omega|assumption|decide +kernel|(simp;done)|(simp;omega)|fail) [run_drawnK,orSlow_none,hb,hl',hT',hlp,wt,cg1,cp0,h2e,h3s,tk1]
  ·have cg1:=cg eg
   have cp1:=cp ep
   rw[den_fn t56 _ _ _ rfl]
   simp only[b56]
   simp (maxSteps:=1000000) (disch:=first|omega|assumption|decide +kernel|(simp;done)|(simp;omega)|fail) [run_drawnK,orSlow_none,hb,hl',hT',hlp,wt,cg1,cp1,h2,h3,tk1,tk2]
end Go.Proofs.Ytbcjofkfgpbhmaa

/-
  DoorsPlay: its equation.
-/
namespace Go.Proofs.Ytbcjofkfgpbhmaa
open Go.Ab
theorem long_iff {l:List (List Int)}(h:longB l=false):l.length≤40∧ ∀x∈l,x.length≤40:=by
 simp only[longB,Bool.or_eq_false_iff,decide_eq_false_iff_not,anyB,List.any_eq_false,decide_eq_true_eq]at h
 exact⟨by omega,fun x hx=>by have:=h.2 x hx;omega⟩
theorem playR_len {t:DTrap} {C M:List (List Int)}:(playR t C M).1.gates.length≤40∧(playR t C M).1.groups.length≤40:=by
 unfold playR
 have hz:zeroD.gates.length≤40∧zeroD.groups.length≤40:=by simp[zeroD]
 split
 ·rename_i hd
  have ho:=doorB_iff.1 hd
  split
  ·split
   ·rename_i hT
    split
    ·rename_i hb
     have hI:=(playF_rel (C:=C) (M:=M) (playI_0 ho) hT).2 hb
     have h1:=hI.gg
     have h2:=hI.gl
     have h3:=ho.gl
     have h4:=ho.ol
     simp only
     omega
    ·exact hz
   ·exact hz
  ·exact hz
 ·exact hz
set_option maxHeartbeats 8000000 in
theorem e_DoorsPlay(t:DTrap)(hs:ShortD t)(C:List (List Int))(hcl:C.length<4611686018427387904)(hcx: ∀x,x∈C→x.length<4611686018427387904)(M:List (List Int))(hml:M.length<4611686018427387904)(hmx: ∀x,x∈M→x.length<4611686018427387904)(lab s):
 den T 15 [.agg (dV t), .sl .no 1 (es cInts C), .sl .no 1 (es cInts M)] lab s=some (.bool true,s):=by
 have hh:=fun lab s=>e_Huge t lab s
 have hwo:=fun lab s=>e_worksD lab s
 change∀lab s,_=some (V.bool (hugeB t),s)at hh
 cases h0:hugeB t<;>rw[h0]at hh
 rotate_left
 ·rw[den_fn t15 _ _ _ rfl]
  simp only[b15]
  simp (maxSteps:=1000000) (disch:=first|omega|assumption|decide +kernel|(simp;done)|(simp;omega)|fail) [hh,hwo]
 have hb:t.gates.length≤40∧t.groups.length≤40:=by
  simp only[hugeB,Bool.or_eq_false_iff,decide_eq_false_iff_not]at h0;omega
 have hl1:=fun lab s=>e_long C hcl lab s
 cases h1:longB C<;>rw[h1]at hl1
 rotate_left
 ·rw[den_fn t15 _ _ _ rfl]
  simp only[b15]
  simp (maxSteps:=1000000) (disch:=first|omega|assumption|decide +kernel|(simp;done)|(simp;omega)|fail) [hh,hl1,hwo]
 have hl2:=fun lab s=>e_long M hml lab s
 cases h2:longB M<;>rw[h2]at hl2
 rotate_left
 ·rw[den_fn t15 _ _ _ rfl]
  simp only[b15]
  simp (maxSteps:=1000000) (disch:=first|omega|assumption|decide +kernel|(simp;done)|(simp;omega)|fail) [hh,hl1,hl2,hwo]
 obtain⟨c1,c2⟩:=long_iff h1
 obtain⟨m1,m2⟩:=long_iff h2
 have hcp:=fun lab loc s k0 k1=>e_CopyD t hs lab loc s k0 k1
 have hc1:=fun lab s=>e_copied C c1 c2 lab s
 have hc2:=fun lab s=>e_copied M m1 m2 lab s
 have hp1:=fun lab s=>e_Play t hs C M c1 m1 c2 m2 lab s
 have hp2:=fun lab s=>e_PlayR t hs C M c1 m1 c2 m2 lab s
 have hsd:=fun lab s=>e_SameD t hb.1 hb.2 lab s
 have hsp:=fun lab s=>e_SameD (playR t C M).1 playR_len.1 playR_len.2 lab s
 have hs1:=fun lab s=>e_sameLists C (by omega) hcx lab s
 have hs2:=fun lab s=>e_sameLists M (by omega) hmx lab s
 generalize playR t C M=W at*
 obtain⟨u2,e⟩:=W
 simp only at hp1 hp2 hsp
 rw[den_fn t15 _ _ _ rfl]
 simp only[b15]
 simp (maxSteps:=1000000) (disch:=first|omega|assumption|decide +kernel|(simp;done)|(simp;omega)|fail) [run_drawnK,orSlow_none,hh,hl1,hl2,hwo,hcp,hc1,hc2,hp1,hp2,hsd,hsp,hs1,hs2]
end Go.Proofs.Ytbcjofkfgpbhmaa

/-
  What the arguments of the laws of doors read as.
-/
namespace Go.Proofs.Ytbcjofkfgpbhmaa
open Go.Ab
set_option maxRecDepth 100000
theorem cells48:Try.prog.cellsOf 48=3:=by kernel_rfl
theorem cells39:Try.prog.cellsOf 39=2:=by kernel_rfl
theorem cells3:Try.prog.cellsOf 3=1:=by kernel_rfl
theorem cells26:Try.prog.cellsOf 26=1:=by kernel_rfl
variable {B : TypeId → Nat → Prop} {n : Nat} {vs : List V}
theorem fit_int(h:Fit Try.prog B (n+1) 3 vs): ∃x,vs=[i64 x]:=by
 simp only[Fit,Try.underlying3]at h
 exact h
theorem fit_bool(h:Fit Try.prog B (n+1) 4 vs): ∃x,vs=[.bool x]:=by
 simp only[Fit,Try.underlying4]at h
 exact h
theorem es_all {α:Type} {f:α→List V}(l:List (List V))(h: ∀x∈l,∃y,x=f y): ∃l':List α,l=es f l':=by
 obtain⟨l',h1,_⟩:=es_of (Q:=fun _=>True) l fun x hx=>by obtain⟨y,hy⟩:=h x hx;exact⟨y,hy,trivial⟩
 exact⟨l',h1⟩
theorem fit_ints(h:Fit Try.prog B (n+2) 26 vs): ∃l:List Int,vs=[.sl .no 1 (es cInt l)]∧B 3 l.length:=by
 rw[Fit,Try.underlying26]at h
 simp only at h
 obtain⟨l,rfl,hb,h⟩:=h
 obtain⟨l',rfl⟩:=es_all (f:=cInt) l fun x hx=>by obtain⟨y,hy⟩:=fit_int (h x hx);exact⟨y,hy⟩
 rw[cells3]
 exact⟨l',rfl,by simpa using hb⟩
theorem fit_gate(h:Fit Try.prog B (n+2) 48 vs): ∃g:DGate,vs=cGate g:=by
 rw[Fit,Try.underlying48]at h
 simp only[FitF]at h
 obtain⟨_,_,rfl,h0,_,_,rfl,h1,_,_,rfl,h2,rfl⟩:=h
 obtain⟨a,rfl⟩:=fit_int h0
 obtain⟨b,rfl⟩:=fit_int h1
 obtain⟨c,rfl⟩:=fit_bool h2
 exact⟨⟨a,b,c⟩,rfl⟩
theorem fit_group(h:Fit Try.prog B (n+2) 39 vs): ∃g:DGroup,vs=cGroup g:=by
 rw[Fit,Try.underlying39]at h
 simp only[FitF]at h
 obtain⟨_,_,rfl,h0,_,_,rfl,h1,rfl⟩:=h
 obtain⟨a,rfl⟩:=fit_int h0
 obtain⟨b,rfl⟩:=fit_int h1
 exact⟨⟨a,b⟩,rfl⟩
theorem fit_gates(h:Fit Try.prog B (n+3) 22 vs): ∃l:List DGate,vs=[.sl .no 3 (es cGate l)]∧B 48 l.length:=by
 rw[Fit,Try.underlying22]at h
 simp only at h
 obtain⟨l,rfl,hb,h⟩:=h
 obtain⟨l',rfl⟩:=es_all (f:=cGate) l fun x hx=>fit_gate (h x hx)
 rw[cells48]
 exact⟨l',rfl,by simpa using hb⟩
theorem fit_groups(h:Fit Try.prog B (n+3) 23 vs): ∃l:List DGroup,vs=[.sl .no 2 (es cGroup l)]∧B 39 l.length:=by
 rw[Fit,Try.underlying23]at h
 simp only at h
 obtain⟨l,rfl,hb,h⟩:=h
 obtain⟨l',rfl⟩:=es_all (f:=cGroup) l fun x hx=>fit_group (h x hx)
 rw[cells39]
 exact⟨l',rfl,by simpa using hb⟩
def Reach(e:TypeId)(k:Nat):Prop:=k≤maxLen∧k*Try.prog.bytesOf e≤reachBytes
theorem bytes3:Try.prog.bytesOf 3=8:=by kernel_rfl
theorem bytes48:Try.prog.bytesOf 48=24:=by kernel_rfl
theorem bytes39:Try.prog.bytesOf 39=16:=by kernel_rfl
theorem reach_ints {k:Nat}(h:Reach 3 k):k<4611686018427387904:=by
 simp only[Reach,bytes3,reachBytes]at h;omega
theorem fit_trap(h:Fit Try.prog Reach (n+4) 25 vs): ∃t:DTrap,vs=dV t∧ShortD t:=by
 rw[Fit,Try.underlying25]at h
 simp only[FitF]at h
 obtain⟨_,_,rfl,h0,_,_,rfl,h1,_,_,rfl,h2,_,_,rfl,h3,_,_,rfl,h4,rfl⟩:=h
 obtain⟨a,rfl⟩:=fit_int h0
 obtain⟨b,rfl⟩:=fit_int h1
 obtain⟨c,rfl⟩:=fit_int h2
 obtain⟨d,rfl,q1⟩:=fit_gates h3
 obtain⟨e,rfl,q2⟩:=fit_groups h4
 simp only[Reach,bytes48,bytes39,reachBytes]at q1 q2
 exact⟨⟨a,b,c,d,e⟩,rfl,by simp only;omega,by simp only;omega⟩
end Go.Proofs.Ytbcjofkfgpbhmaa

/-
  What lists of lists read as.
-/
namespace Go.Proofs.Ytbcjofkfgpbhmaa
open Go.Ab
set_option maxRecDepth 100000
theorem bytes26:Try.prog.bytesOf 26=24:=by kernel_rfl
theorem reach_lists {k:Nat}(h:Reach 26 k):k<4611686018427387904:=by
 simp only[Reach,bytes26,reachBytes]at h;omega
theorem fit_lists {n:Nat} {vs:List V}(h:Fit Try.prog Reach (n+3) 62 vs): ∃l:List (List Int),vs=[.sl .no 1 (es cInts l)]∧l.length<4611686018427387904∧ ∀x,x∈l→x.length<4611686018427387904:=by
 rw[Fit,Try.underlying62]at h
 simp only at h
 obtain⟨l,rfl,hb,h⟩:=h
 obtain⟨l',h1,h2⟩:=es_of (f:=cInts) (Q:=fun x=>Reach 3 x.length) l fun x hx=>by obtain⟨y,hy,hy2⟩:=fit_ints (h x hx);exact⟨y,hy,hy2⟩
 subst h1
 rw[cells26]
 exact⟨l',rfl,reach_lists (by simpa using hb),fun x hx=>reach_ints (h2 x hx)⟩
end Go.Proofs.Ytbcjofkfgpbhmaa

/-
  Doors: Play.
-/
import Derived.Test.YtbcjofkfgpbhmaaEq3
import Derived.Test.YtbcjofkfgpbhmaaEq1
set_option linter.unusedSimpArgs false
set_option linter.unusedVariables false
namespace Go.Proofs.Ytbcjofkfgpbhmaa
open Go.Ab
set_option maxHeartbeats 16000000 in
theorem e_Play(t:DTrap)(hs:ShortD t)(C M:List (List Int))(hc40:C.length≤40)(hm40:M.length≤40)(hc: ∀x∈C,x.length≤40)(hm: ∀x∈M,x.length≤40)(lab s):
 den T 56 [.agg (dV t), .sl .no 1 (es cInts C), .sl .no 1 (es cInts M)] lab s=some (.tup [.agg (dV (playR t C M).1),i64 (playR t C M).2],s):=by
 unfold playR
 cases h:doorB t
 ·have hb:=fun b lab loc s=>e_begin_bad t hs h b lab loc s
  simp only[Bool.false_eq_true,if_false,dV_zero]
  rw[den_fn t56 _ _ _ rfl]
  simp only[b56]
  simp (maxSteps:=1000000) (disch:=first|omega|assumption|decide +kernel|(simp;done)|(simp;omega)|fail) [run_drawnK,orSlow_none,hb]
 have ho:=doorB_iff.1 h
 have htu:=ho.tu
 by_cases hl:C.length=M.length
 rotate_left
 ·have hl': ¬(C.length:Int)=M.length:=by omega
  have hb:=fun lab loc s=>e_begin_arg t ho lab loc s
  simp only[if_true,if_neg hl,dV_zero]
  rw[den_fn t56 _ _ _ rfl]
  simp only[b56]
  simp (maxSteps:=1000000) (disch:=first|omega|assumption|decide +kernel|(simp;done)|(simp;omega)|fail) [run_drawnK,orSlow_none,hb,hl']
 have hl':(C.length:Int)=M.length:=by omega
 have hb:=fun lab loc k0 k1=>e_begin t ho lab loc s k0 k1
 simp only[scene0]at hb
 by_cases hT:(C.length:Int)≤t.turns
 rotate_left
 ·have hT':t.turns<(M.length:Int):=by omega
  simp only[if_true,if_pos hl,if_neg hT,dV_zero]
  rw[den_fn t56 _ _ _ rfl]
  simp only[b56]
  simp (maxSteps:=1000000) (disch:=first|omega|assumption|decide +kernel|(simp;done)|(simp;omega)|fail) [run_drawnK,orSlow_none,hb,hl',hT']
 have hT': ¬t.turns<(M.length:Int):=by omega
 have wt:IntKind.i64.wrap (t.turns-M.length)=t.turns-M.length:=wi _ (by omega) (by omega)
 obtain⟨⟨g,hg⟩,hlp⟩:=play_l0 t ho C M hl hT hc hm t.turns _ (playI_0 ho) s
 obtain⟨r1,r2⟩:=playF_rel (C:=C) (M:=M) (playI_0 ho) hT
 rw[r1]at hlp
 simp only[nAt,gN,playFr,sceneL,List.map_cons,List.map_nil,zeroT]at hlp
 by_cases hbp:(playF t C M).2=true
 rotate_left
 ·rw[if_neg hbp]at hlp
  simp only[if_true,if_pos hl,if_pos hT,if_neg hbp,dV_zero]
  rw[hl']at hlp
  rw[den_fn t56 _ _ _ rfl]
  simp only[b56]
  simp (maxSteps:=1000000) (disch:=first|omega|assumption|decide +kernel|(simp;done)|(simp;omega)|fail) [run_drawnK,orSlow_none,hb,hl',hT',hlp,hg]
 have hI:=r2 hbp
 rw[if_pos hbp]at hlp
 simp only[if_true,if_pos hl,if_pos hT,if_pos hbp]
 rw[←playOut_eq hI]
 have hon:=hI.o
 have hnn:=hI.n
 simp only[nAt,gN]at hon hnn⊢
 generalize (foldB (plStep t C M) (List.range C.length) (gateBits t.gates,[at0 t 0,at0 t 1,at0 t 2])).1=a at*
 obtain⟨o,n⟩:=a
 obtain⟨x0,x1,x2,rfl⟩: ∃x0 x1 x2,n=[x0,x1,x2]:=by
  match n,hnn with
  |[x0,x1,x2],_=>exact⟨x0,x1,x2,rfl⟩
 simp only at hlp hon⊢
 rw[hl']at hlp
 have hgl:=ho.gl
 have hol:=ho.ol
 unfold playOut
 have h2:=fun rs=>play_l2 t ho (t.turns-M.length) t.turns o hon [x0,x1,x2] rs s
 have h2e:=play_l2e t ho (t.turns-M.length) t.turns o hon [x0,x1,x2] s
 have h3:=fun gs=>play_l3 t ho (t.turns-M.length) t.turns o x0 x1 x2 gs s
 have h3e:=play_l3e t ho (t.turns-M.length) t.turns o x0 x1 x2 s
 have h2s:=fun rs=>play_l2s t (t.turns-M.length) t.turns o [x0,x1,x2] rs s
 have h2c:=play_l2c t (t.turns-M.length) t.turns o [x0,x1,x2] s
 have h3s:=fun gs=>play_l3s t (t.turns-M.length) t.turns o [x0,x1,x2] gs s
 have h3c:=play_l3c t (t.turns-M.length) t.turns o [x0,x1,x2] s
 have cg:=fun(e: ¬t.gates=[]) F lab k=>e_CloneG t.gates e (by omega) F s lab k
 have cp:=fun(e: ¬t.groups=[]) F lab k=>e_CloneP t.groups e (by omega) F s lab k
 have cg0:=fun F lab=>e_CloneG0 F s lab
 have cp0:=fun F lab=>e_CloneP0 F s lab
 simp only[plFr,plFrA,plFrB,plFrC,zeroT,sceneL,List.map_cons,List.map_nil]at h2 h2e h3 h3e h2s h2c h3s h3c
 have tk1:(openG o t.gates).take t.gates.length=openG o t.gates:=List.take_of_length_le (by simp)
 have tk2:(movedG [x0,x1,x2] 0 t.groups).take t.groups.length=movedG [x0,x1,x2] 0 t.groups:=List.take_of_length_le (by simp)
 by_cases eg:t.gates=[]
 ·have eg1:es cGate t.gates=[]:=by rw[eg];rfl
  have eg2:t.gates.length=0:=by rw[eg];rfl
  have eg3:openG o t.gates=[]:=by rw[eg];rfl
  by_cases ep:t.groups=[]
  ·have ep1:es cGroup t.groups=[]:=by rw[ep];rfl
   have ep2:t.groups.length=0:=by rw[ep];rfl
   have ep3:movedG [x0,x1,x2] 0 t.groups=[]:=by rw[ep];rfl
   simp only[dV,eg1,ep1]at hb hlp
   simp only[dV,eg1,ep1,eg3,ep3,es_nil]
   rw[den_fn t56 _ _ _ rfl]
   simp only[b56]
   simp (maxSteps:=1000000) (disch:=first|omega|assumption|decide +kernel|(simp;done)|(simp;omega)|fail) [run_drawnK,orSlow_none,hb,hl',hT',hlp,wt,cg0,cp0,h2c,h3c]
  ·have cp1:=cp ep
   simp only[dV,eg1]at hb hlp
   simp only[dV,eg1,eg3,es_nil]
   rw[den_fn t56 _ _ _ rfl]
   simp only[b56]
   simp (maxSteps:=1000000) (disch:=first|omega|assumption|decide +kernel|(simp;done)|(simp;omega)|fail) [run_drawnK,orSlow_none,hb,hl',hT',hlp,wt,cg0,cp1,h2s,h3,h3e,tk2]
 ·by_cases ep:t.groups=[]
  ·have cg1:=cg eg
   have ep1:es cGroup t.groups=[]:=by rw[ep];rfl
   have ep2:t.groups.length=0:=by rw[ep];rfl
   have ep3:movedG [x0,x1,x2] 0 t.groups=[]:=by rw[ep];rfl
   simp only[dV,ep1]at hb hlp
   simp only[dV,ep1,ep3,es_nil]
   rw[den_fn t56 _ _ _ rfl]
   simp only[b56]
   simp (maxSteps:=1000000) (disch:=first|omega|assumption|decide +kernel|(simp;done)|(simp;omega)|fail) [run_drawnK,orSlow_none,hb,hl',hT',hlp,wt,cg1,cp0,h2e,h3s,tk1]
  ·have cg1:=cg eg
   have cp1:=cp ep
   rw[den_fn t56 _ _ _ rfl]
   simp only[b56]
   simp (maxSteps:=1000000) (disch:=first|omega|assumption|decide +kernel|(simp;done)|(simp;omega)|fail) [run_drawnK,orSlow_none,hb,hl',hT',hlp,wt,cg1,cp1,h2,h3,tk1,tk2]
end Go.Proofs.Ytbcjofkfgpbhmaa

/-
  DoorsEnd: the game as it is played, plain.
-/
namespace Go.Proofs.Ytbcjofkfgpbhmaa
open Go.Ab
structure EndA where
 o:DTrap
 C:List (List Int)
 M:List (List Int)
def endP(a:EndA):List Int:=planS a.o
def endR(a:EndA):List Int:=replyS a.o (planS a.o)
def endStep(a:EndA):EndA:=⟨behindT a.o (endP a) (endR a),a.C ++[endP a],a.M ++[endR a]⟩
structure EndI(t:DTrap)(k:Nat)(a:EndA):Prop where
 ok:DoorOk a.o
 tu:a.o.turns=t.turns-(k:Nat)
 gl:a.o.groups.length=t.groups.length
 cl:a.C.length=k
 ml:a.M.length=k
 play:playF t a.C a.M=(a.o,true)
 worth:worthT a.o a.o.turns.toNat=worthT t t.turns.toNat
 c40: ∀x∈a.C,x.length≤40
 m40: ∀x∈a.M,x.length≤40
theorem endI_0 {t:DTrap}(h:DoorOk t):EndI t 0 ⟨t,[],[]⟩:=⟨h,by simp,rfl,rfl,rfl,rfl,rfl,by simp,by simp⟩
theorem play_snoc {t o:DTrap} {C M:List (List Int)}(hl:C.length=M.length)(h:playF t C M=(o,true))(c m:List Int):playF t (C ++[c]) (M ++[m])=playStep (C ++[c]) (M ++[m]) o C.length:=by
 unfold playF at h⊢
 rw[List.length_append,List.length_singleton,List.range_succ,foldB_append]
 have e:foldB (playStep (C ++[c]) (M ++[m])) (List.range C.length) t=foldB (playStep C M) (List.range C.length) t:=foldB_congr fun i hi a=>by
  simp only[List.mem_range]at hi
  unfold playStep
  have e1:(C ++[c]).getD i []=C.getD i []:=by simp[List.getD,List.getElem?_append,hi]
  have e2:(M ++[m]).getD i []=M.getD i []:=by simp[List.getD,List.getElem?_append,show i<M.length by omega]
  rw[e1,e2]
 rw[e,h,if_pos rfl,foldB_one]
theorem end_step {t:DTrap} {k:Nat} {a:EndA}(h:EndI t k a)(hT:0<a.o.turns):
 isChangeB a.o.hands a.o.gates.length (endP a)=true∧areB (changedT a.o (endP a)) (endR a)=true∧(endP a).length≤3∧(endR a).length=t.groups.length∧EndI t (k+1) (endStep a):=by
 have ho:=h.ok
 obtain⟨p1,p2,_⟩:=plan_in ho hT
 obtain⟨r1,r2,_⟩:=reply_in a.o (planS a.o)
 have hi:isChangeB a.o.hands a.o.gates.length (endP a)=true:=(isChange_of ho).2 p1
 have ha:areB (changedT a.o (endP a)) (endR a)=true:=mem_movesT.1 r1
 have hcl:(endP a).length≤3:=by
  have:=(mem_choices.1 p1).1
  have:=ho.ha
  unfold endP;omega
 have hml:(endR a).length=t.groups.length:=by rw[←h.gl];exact movesT_len r1
 have hol:=ho.ol
 have hgl:=h.gl
 have htu:=h.tu
 refine⟨hi,ha,hcl,hml,behind_ok ho hT r1,?_,?_,?_,?_,?_,?_,?_,?_⟩
 ·simp only[endStep,behindT,movedT,changedT];omega
 ·simp only[endStep,behindT,movedT,changedT];simpa using h.gl
 ·simp[endStep,h.cl]
 ·simp[endStep,h.ml]
 ·simp only[endStep]
  rw[play_snoc (by rw[h.cl,h.ml]) h.play]
  unfold playStep
  have e1:(a.C ++[endP a]).getD a.C.length []=endP a:=by simp[List.getD]
  have e2:(a.M ++[endR a]).getD a.C.length []=endR a:=by rw[h.cl,←h.ml];simp[List.getD]
  rw[e1,e2,if_pos ⟨hi,ha⟩]
 ·have e:(endStep a).o.turns.toNat=a.o.turns.toNat-1:=by simp only[endStep,behindT,movedT,changedT];omega
  rw[e,←h.worth,←p2,←r2];rfl
 ·intro x hx
  simp only[endStep,List.mem_append,List.mem_singleton]at hx
  rcases hx with hx|rfl
  ·exact h.c40 x hx
  ·omega
 ·intro x hx
  simp only[endStep,List.mem_append,List.mem_singleton]at hx
  rcases hx with hx|rfl
  ·exact h.m40 x hx
  ·omega
def endAll(t:DTrap)(k:Nat):EndA:=(List.range k).foldl (fun a _=>endStep a) ⟨t,[],[]⟩
theorem endAll_ok {t:DTrap}(h:DoorOk t): ∀k:Nat,(k:Int)≤t.turns→EndI t k (endAll t k)
 |0,_=>endI_0 h
 |k+1,hk=>by
   have ih:=endAll_ok h k (by omega)
   have:endAll t (k+1)=endStep (endAll t k):=by unfold endAll;rw[List.range_succ,List.foldl_append];rfl
   rw[this]
   exact(end_step ih (by rw[ih.tu];omega)).2.2.2.2
theorem end_fin {t:DTrap}(h:DoorOk t):playR t (endAll t t.turns.toNat).C (endAll t t.turns.toNat).M=((endAll t t.turns.toNat).o,0)∧caughtS (endAll t t.turns.toNat).o.chambers.toNat (fishL (endAll t t.turns.toNat).o) (posL (endAll t t.turns.toNat).o)=worthT t t.turns.toNat∧(endAll t t.turns.toNat).o.turns=0:=by
 have htu:=h.tu
 have hI:=endAll_ok h t.turns.toNat (by omega)
 generalize endAll t t.turns.toNat=a at*
 have h0:a.o.turns=0:=by rw[hI.tu];omega
 refine⟨?_,?_,h0⟩
 ·unfold playR
  have e1:=hI.cl
  have e2:=hI.ml
  rw[if_pos (doorB_iff.2 h),if_pos (by omega),if_pos (by omega),hI.play]
  rfl
 ·rw[←hI.worth,h0];rfl
end Go.Proofs.Ytbcjofkfgpbhmaa

/-
  DoorsEnd: the turns, as the law walks them.
-/
namespace Go.Proofs.Ytbcjofkfgpbhmaa
open Go.Ab
def endFr(t:DTrap)(d:Nat):Nat→EndA→Ab.Loc
 |0,_=>[(16, .cell (dV t)),(320, .arr 3 (es cGate t.gates)),(1320, .arr 2 (es cGroup t.groups)),(96, .cell [i64 t.chambers,i64 t.turns,i64 t.hands, .asl d 320 3 t.gates.length 0 t.gates.length, .asl d 1320 2 t.groups.length 0 t.groups.length]),(81, .tok 0),(65, .tok 0)]
 |_+1,a=>[(16, .cell (dV t)),(320, .tok t.gates.length),(1320, .tok t.groups.length),(96, .cell (dV a.o)),(81, .tok a.M.length),(65, .tok a.C.length)]
theorem frzE_tok(l:Nat)(e:Env)(loc:Ab.Loc)(r:Stk)(n:Nat):frzE l e loc r (some (.tok n))=(e,loc::r):=rfl
theorem appK_own0(esz bytes lab:Nat)(loc:Ab.Loc)(r:Stk)(l:Nat)(c':Cap)(y:List V)(hb:bytes≤1000)(h6:Loc.get loc l=some (.tok 0)):
 appK esz bytes lab (loc::r) (.sl (.own r.length l) esz []) (.sl c' esz [y])=some (.sl (.own r.length l) esz [y],loc.put l (.tok 1)::r):=by
 have:=appK_own esz bytes lab loc r l [] c' esz [y] (by simp;omega) (by simp) (.inl rfl) (by simpa using h6)
 simpa using this
set_option maxHeartbeats 16000000 in
theorem end_l0(t:DTrap)(h:DoorOk t)(hT:0<t.turns)(n:Int)(s:Stk):
 Run T b14l0 [(4, .sl (.own s.length 65) 1 []),(5, .sl (.own s.length 81) 1 []),(1, .ptr s.length 16 0),(3,i64 n),(4, .sl .full 1 []),(5, .sl .full 1 []),(6, .ptr s.length 96 0)] (endFr t s.length 0 ⟨t,[],[]⟩::s)=
  some (.exit 0,[(1, .ptr s.length 16 0),(3,i64 n),(4, .sl (.own s.length 65) 1 (es cInts (endAll t t.turns.toNat).C)),(5, .sl (.own s.length 81) 1 (es cInts (endAll t t.turns.toNat).M)),(6, .ptr s.length 96 0),(23, .bool false)],endFr t s.length t.turns.toNat (endAll t t.turns.toNat)::s):=by
 have htu:=h.tu
 have hq: ∃q,t.turns.toNat=q+1:=⟨t.turns.toNat-1,by omega⟩
 have key:=loop_fold (T:=Go.Proofs.Ytbcjofkfgpbhmaa.T) (live:=[1,3,4,5,6]) (keep:=[16,65,81,96,320,1320]) (b:=d14l0) (List.range t.turns.toNat) (fun k (a:EndA)=>EndI t k a∧a=endAll t k) (fun a _=>endStep a)
  (fun k a=>[(1, .ptr s.length 16 0),(3,i64 n),(4, .sl (.own s.length 65) 1 (es cInts a.C)),(5, .sl (.own s.length 81) 1 (es cInts a.M)),(6, .ptr s.length 96 0)]) (fun k a=>endFr t s.length k a::s)
  (fun a=>(.exit 0,[(1, .ptr s.length 16 0),(3,i64 n),(4, .sl (.own s.length 65) 1 (es cInts a.C)),(5, .sl (.own s.length 81) 1 (es cInts a.M)),(6, .ptr s.length 96 0),(23, .bool false)],endFr t s.length t.turns.toNat a::s))
  (by simp) ?_ ?_ ?_ ⟨t,[],[]⟩ ⟨endI_0 h,rfl⟩ [(4, .sl (.own s.length 65) 1 []),(5, .sl (.own s.length 81) 1 []),(1, .ptr s.length 16 0),(3,i64 n),(4, .sl .full 1 []),(5, .sl .full 1 []),(6, .ptr s.length 96 0)] (endFr t s.length 0 ⟨t,[],[]⟩::s) (by simp) (by simp[endFr])
 ·exact key
 ·intro k a hk hi
  simp only[List.length_range]at hk
  obtain⟨hI,ha⟩:=hi
  have ho:=hI.ok
  have hT0:0<a.o.turns:=by rw[hI.tu];omega
  obtain⟨f1,f2,f3,f4,_⟩:=end_step hI hT0
  have hs:=doorB_short (doorB_iff.2 ho)
  have e1:planR a.o=(endP a,0):=by unfold planR;rw[if_pos (doorB_iff.2 ho),if_pos hT0];rfl
  have e2:replyR a.o (endP a)=(endR a,0):=by
   unfold replyR
   have:openR a.o (endP a)=0:=by unfold openR;rw[if_pos (doorB_iff.2 ho),if_pos f1,if_neg (by omega)]
   rw[if_pos this];rfl
  have hp:=fun lab s=>e_Plan a.o hs lab s
  have hr:=fun lab s=>e_Reply a.o hs (endP a) (by omega) lab s
  have hic:=fun lab s=>e_IsChange a.o hs (endP a) (by omega) lab s
  obtain⟨hcm,hc5,_⟩:=change_all ho f1
  obtain⟨_,hpw,hrg⟩:=mem_choices.1 hcm
  have hcg:=fun lab s=>e_Changed a.o hs (endP a) (by omega) hrg hpw lab s
  have hol:=h.ol
  have har:=fun lab s=>e_AreMoves (changedT a.o (endP a)) (changed_ok ho _) (endR a) (by omega) lab s
  have hbh:=fun lab s=>e_behind a.o ho hT0 (endP a) (endR a) f1 (by omega) (by rw[f4,hI.gl]) lab s
  rw[e1]at hp
  rw[e2]at hr
  rw[f1]at hic
  rw[f2]at har
  have hclk:=hI.cl
  have hmlk:=hI.ml
  have ec:es cInts a.C ++[[.sl .no 1 (es cInt (endP a))]]=es cInts (a.C ++[endP a]):=by simp[es]
  have em:es cInts a.M ++[[.sl .no 1 (es cInt (endR a))]]=es cInts (a.M ++[endR a]):=by simp[es]
  have el1:(es cInts a.C).length=k:=by simp[hclk]
  have el2:(es cInts a.M).length=k:=by simp[hmlk]
  simp only[endStep]
  have f3': ¬(3:Int)<(endP a).length:=by omega
  have f3n: ¬3<(endP a).length:=by omega
  have f4':((endR a).length:Int)=t.groups.length:=by omega
  have ez: ∀c:List Int,es cInts [c]=[[.sl .no 1 (es cInt c)]]:=fun _=>rfl
  clear e1 e2 f1 f2 hcm hc5 hpw hrg
  simp only at hp hr
  cases k with
  |zero=>
    obtain rfl:a=⟨t,[],[]⟩:=ha
    dsimp only at hp hr hic hcg har hbh hT0
    simp only[endFr]
    generalize behindT t (endP ⟨t,[],[]⟩) (endR ⟨t,[],[]⟩)=u2 at*
    generalize changedT t (endP ⟨t,[],[]⟩)=u1 at*
    generalize endP ⟨t,[],[]⟩=c at*
    generalize endR ⟨t,[],[]⟩=m at*
    by_cases hc0:c=[]
    ·subst hc0
     simp only[es_nil]at hp hr hic hcg hbh
     by_cases hm0:m=[]
     ·subst hm0
      simp only[es_nil]at hr har hbh
      have hz0:t.groups=[]:=List.eq_nil_of_length_eq_zero f4.symm
      have hz:(t.groups=[])=True:=eq_true hz0
      have hz1:(0=t.groups.length)=True:=eq_true f4
      have hz2:(t.groups.length=0)=True:=eq_true f4.symm
      have hz3:((0:Int)=t.groups.length)=True:=eq_true (by rw[hz0];rfl)
      clear f4' hz0
      simp (maxSteps:=1000000) (disch:=first|omega|assumption|decide +kernel|(simp;done)|(simp;omega)|fail) [hz,hz1,hz2,hz3,run_drawnK,orSlow_none,hT0,hp,hr,hic,hcg,har,hbh,f3',f3n,ez,appK_full_nil,appK_full,appD_full_nil,appD_full,appK_own0]
     ·simp (maxSteps:=1000000) (disch:=first|omega|assumption|decide +kernel|(simp;done)|(simp;omega)|fail) [hm0,run_drawnK,orSlow_none,hT0,hp,hr,hic,hcg,har,hbh,f3',f4',f3n,f4,ez,appK_full_nil,appK_full,appD_full_nil,appD_full,appK_own0]
    ·by_cases hm0:m=[]
     ·subst hm0
      simp only[es_nil]at hr har hbh
      have hz0:t.groups=[]:=List.eq_nil_of_length_eq_zero f4.symm
      have hz:(t.groups=[])=True:=eq_true hz0
      have hz1:(0=t.groups.length)=True:=eq_true f4
      have hz2:(t.groups.length=0)=True:=eq_true f4.symm
      have hz3:((0:Int)=t.groups.length)=True:=eq_true (by rw[hz0];rfl)
      clear f4' hz0
      simp (maxSteps:=1000000) (disch:=first|omega|assumption|decide +kernel|(simp;done)|(simp;omega)|fail) [hc0,hz,hz1,hz2,hz3,run_drawnK,orSlow_none,hT0,hp,hr,hic,hcg,har,hbh,f3',f3n,ez,appK_full_nil,appK_full,appD_full_nil,appD_full,appK_own0]
     ·simp (maxSteps:=1000000) (disch:=first|omega|assumption|decide +kernel|(simp;done)|(simp;omega)|fail) [hc0,hm0,run_drawnK,orSlow_none,hT0,hp,hr,hic,hcg,har,hbh,f3',f4',f3n,f4,ez,appK_full_nil,appK_full,appD_full_nil,appD_full,appK_own0]
  |succ k=>
    simp only[endFr]
    generalize behindT a.o (endP a) (endR a)=u2 at*
    generalize changedT a.o (endP a)=u1 at*
    generalize endP a=c at*
    generalize endR a=m at*
    by_cases hc0:c=[]
    ·subst hc0
     simp only[es_nil]at hp hr hic hcg hbh ec
     by_cases hm0:m=[]
     ·subst hm0
      simp only[es_nil]at hr har hbh em
      have hz0:t.groups=[]:=List.eq_nil_of_length_eq_zero f4.symm
      have hz:(t.groups=[])=True:=eq_true hz0
      have hz1:(0=t.groups.length)=True:=eq_true f4
      have hz2:(t.groups.length=0)=True:=eq_true f4.symm
      have hz3:((0:Int)=t.groups.length)=True:=eq_true (by rw[hz0];rfl)
      clear f4' hz0
      simp (maxSteps:=1000000) (disch:=first|omega|assumption|decide +kernel|(simp;done)|(simp;omega)|fail) [hz,hz1,hz2,hz3,run_drawnK,orSlow_none,hT0,hp,hr,hic,hcg,har,hbh,f3',f3n,ez,appK_full_nil,appK_full,appD_full_nil,appD_full,appK_own1,ec,em,frzE_tok,hclk,hmlk]
     ·simp (maxSteps:=1000000) (disch:=first|omega|assumption|decide +kernel|(simp;done)|(simp;omega)|fail) [hm0,run_drawnK,orSlow_none,hT0,hp,hr,hic,hcg,har,hbh,f3',f4',f3n,f4,ez,appK_full_nil,appK_full,appD_full_nil,appD_full,appK_own1,ec,em,frzE_tok,hclk,hmlk]
    ·by_cases hm0:m=[]
     ·subst hm0
      simp only[es_nil]at hr har hbh em
      have hz0:t.groups=[]:=List.eq_nil_of_length_eq_zero f4.symm
      have hz:(t.groups=[])=True:=eq_true hz0
      have hz1:(0=t.groups.length)=True:=eq_true f4
      have hz2:(t.groups.length=0)=True:=eq_true f4.symm
      have hz3:((0:Int)=t.groups.length)=True:=eq_true (by rw[hz0];rfl)
      clear f4' hz0
      simp (maxSteps:=1000000) (disch:=first|omega|assumption|decide +kernel|(simp;done)|(simp;omega)|fail) [hc0,hz,hz1,hz2,hz3,run_drawnK,orSlow_none,hT0,hp,hr,hic,hcg,har,hbh,f3',f3n,ez,appK_full_nil,appK_full,appD_full_nil,appD_full,appK_own1,ec,em,frzE_tok,hclk,hmlk]
     ·simp (maxSteps:=1000000) (disch:=first|omega|assumption|decide +kernel|(simp;done)|(simp;omega)|fail) [hc0,hm0,run_drawnK,orSlow_none,hT0,hp,hr,hic,hcg,har,hbh,f3',f4',f3n,f4,ez,appK_full_nil,appK_full,appD_full_nil,appD_full,appK_own1,ec,em,frzE_tok,hclk,hmlk]
 ·intro k a hk hi
  simp only[List.length_range]at hk
  obtain⟨hI,ha⟩:=hi
  refine⟨(end_step hI (by rw[hI.tu];omega)).2.2.2.2,?_⟩
  rw[ha]
  unfold endAll
  rw[List.range_succ,List.foldl_append];rfl
 ·intro a hi
  obtain⟨q,hq⟩:=hq
  obtain⟨hI,ha⟩:=hi
  simp only[List.length_range]at hI
  have h0:a.o.turns=0:=by rw[hI.tu];omega
  simp only[List.length_range,hq,endFr]
  simp (maxSteps:=1000000) (disch:=first|omega|assumption|decide +kernel|(simp;done)|(simp;omega)|fail) [h0,frzE_tok]
end Go.Proofs.Ytbcjofkfgpbhmaa

/-
  DoorsEnd: its equation.
-/
namespace Go.Proofs.Ytbcjofkfgpbhmaa
open Go.Ab
set_option maxHeartbeats 4000000 in
theorem end_l00(t:DTrap)(hT:t.turns=0)(n:Int)(s:Stk):
 Run T b14l0 [(4, .sl (.own s.length 65) 1 []),(5, .sl (.own s.length 81) 1 []),(1, .ptr s.length 16 0),(3,i64 n),(4, .sl .full 1 []),(5, .sl .full 1 []),(6, .ptr s.length 96 0)] (endFr t s.length 0 ⟨t,[],[]⟩::s)=
  some (.exit 0,[(1, .ptr s.length 16 0),(3,i64 n),(4, .sl (.own s.length 65) 1 []),(5, .sl (.own s.length 81) 1 []),(6, .ptr s.length 96 0),(23, .bool false)],[(16, .cell (dV t)),(320, .tok t.gates.length),(1320, .tok t.groups.length),(96, .cell [i64 t.chambers,i64 0,i64 t.hands, .sl (.own s.length 320) 3 (es cGate t.gates), .sl (.own s.length 1320) 2 (es cGroup t.groups)]),(81, .tok 0),(65, .tok 0)]::s):=by
 refine loop_fold (T:=Go.Proofs.Ytbcjofkfgpbhmaa.T) (live:=[1,3,4,5,6]) (keep:=[16,65,81,96,320,1320]) (b:=d14l0) ([]:List Nat) (fun _ (_:Unit)=>True) (fun _ _=>())
  (fun _ _=>[(1, .ptr s.length 16 0),(3,i64 n),(4, .sl (.own s.length 65) 1 []),(5, .sl (.own s.length 81) 1 []),(6, .ptr s.length 96 0)]) (fun _ _=>endFr t s.length 0 ⟨t,[],[]⟩::s)
  (fun _=>(.exit 0,[(1, .ptr s.length 16 0),(3,i64 n),(4, .sl (.own s.length 65) 1 []),(5, .sl (.own s.length 81) 1 []),(6, .ptr s.length 96 0),(23, .bool false)],[(16, .cell (dV t)),(320, .tok t.gates.length),(1320, .tok t.groups.length),(96, .cell [i64 t.chambers,i64 0,i64 t.hands, .sl (.own s.length 320) 3 (es cGate t.gates), .sl (.own s.length 1320) 2 (es cGroup t.groups)]),(81, .tok 0),(65, .tok 0)]::s))
  (by simp) ?_ ?_ ?_ () trivial _ _ (by simp) (by simp[endFr])
 ·intro k a hk;simp at hk
 ·intro k a hk;simp at hk
 ·intro a _
  simp only[endFr]
  simp (maxSteps:=1000000) (disch:=first|omega|assumption|decide +kernel|(simp;done)|(simp;omega)|fail) [hT]
set_option maxHeartbeats 8000000 in
theorem e_DoorsEnd(t:DTrap)(hs:ShortD t)(lab s):den T 14 [.agg (dV t)] lab s=some (.bool true,s):=by
 have hrd:=fun lab s=>e_readyD t hs lab s
 have hwo:=fun lab s=>e_worksD lab s
 cases hr:readyD t<;>rw[hr]at hrd
 ·rw[den_fn t14 _ _ _ rfl]
  simp only[b14]
  simp (maxSteps:=1000000) (disch:=first|omega|assumption|decide +kernel|(simp;done)|(simp;omega)|fail) [hrd,hwo]
 have h:=readyD_ok hr
 have htu:=h.tu
 have hwt:=fun lab s=>e_worthL t h lab s
 have hcp:=fun lab loc s k0 k1=>e_CopyD t hs lab loc s k0 k1
 have h0:=worthT_nonneg h t.turns.toNat
 obtain⟨f1,f2,f3⟩:=end_fin h
 have hI:=endAll_ok h t.turns.toNat (by omega)
 have hpl:=fun lab s=>e_Play t hs (endAll t t.turns.toNat).C (endAll t t.turns.toNat).M (by rw[hI.cl];omega) (by rw[hI.ml];omega) hI.c40 hI.m40 lab s
 have hg5:=hI.ok.gl
 have hg3:=hI.ok.ol
 have hsd:=fun lab s=>e_SameD (endAll t t.turns.toNat).o (by omega) (by omega) lab s
 have hca:=fun lab s=>e_Caught (endAll t t.turns.toNat).o hI.ok lab s
 rw[f1]at hpl
 rw[f2]at hca
 by_cases hT:t.turns=0
 ·have hl:=end_l00 t hT (worthT t t.turns.toNat) s
  have e0:endAll t t.turns.toNat=⟨t,[],[]⟩:=by rw[hT];rfl
  rw[e0]at hpl hsd hca
  simp only[dV,hT,es_nil,endFr]at hpl hsd hca hl hwt hcp hrd
  have ht0:(0:Int).toNat=0:=rfl
  simp only[ht0]at hl hwt hca
  rw[hT,ht0]at h0
  generalize hW:worthT t 0=w at*
  simp only[dV,hT]
  rw[den_fn t14 _ _ _ rfl]
  simp only[b14]
  simp (maxSteps:=1000000) (disch:=first|omega|assumption|decide +kernel|(simp;done)|(simp;omega)|fail) [run_drawnK,orSlow_none,hrd,hwt,hcp,hl,hpl,hsd,hca,hwo,h0]
 ·have hl:=end_l0 t h (by omega) (worthT t t.turns.toNat) s
  obtain⟨q,hq⟩: ∃q,t.turns.toNat=q+1:=⟨t.turns.toNat-1,by omega⟩
  have e0:endFr t s.length t.turns.toNat (endAll t t.turns.toNat)=[(16, .cell (dV t)),(320, .tok t.gates.length),(1320, .tok t.groups.length),(96, .cell (dV (endAll t t.turns.toNat).o)),(81, .tok (endAll t t.turns.toNat).M.length),(65, .tok (endAll t t.turns.toNat).C.length)]:=by
   rw[hq];rfl
  rw[e0]at hl
  have e1:endFr t s.length 0 ⟨t,[],[]⟩=[(16, .cell (dV t)),(320, .arr 3 (es cGate t.gates)),(1320, .arr 2 (es cGroup t.groups)),(96, .cell [i64 t.chambers,i64 t.turns,i64 t.hands, .asl s.length 320 3 t.gates.length 0 t.gates.length, .asl s.length 1320 2 t.groups.length 0 t.groups.length]),(81, .tok 0),(65, .tok 0)]:=rfl
  rw[e1]at hl
  clear e0 e1 hI f1 f2 f3 hq
  generalize worthT t t.turns.toNat=w at*
  generalize endAll t t.turns.toNat=a at*
  obtain⟨u2,C2,M2⟩:=a
  simp only at hpl hsd hca hl
  rw[den_fn t14 _ _ _ rfl]
  simp only[b14]
  simp (maxSteps:=1000000) (disch:=first|omega|assumption|decide +kernel|(simp;done)|(simp;omega)|fail) [run_drawnK,orSlow_none,hrd,hwt,hcp,hl,hpl,hsd,hca,hwo,h0]
end Go.Proofs.Ytbcjofkfgpbhmaa

/-
  What the arguments of the laws of doors read as.
-/
namespace Go.Proofs.Ytbcjofkfgpbhmaa
open Go.Ab
set_option maxRecDepth 100000
theorem cells48:Try.prog.cellsOf 48=3:=by kernel_rfl
theorem cells39:Try.prog.cellsOf 39=2:=by kernel_rfl
variable {B : TypeId → Nat → Prop} {n : Nat} {vs : List V}
theorem fit_int(h:Fit Try.prog B (n+1) 3 vs): ∃x,vs=[i64 x]:=by
 simp only[Fit,Try.underlying3]at h
 exact h
theorem fit_bool(h:Fit Try.prog B (n+1) 4 vs): ∃x,vs=[.bool x]:=by
 simp only[Fit,Try.underlying4]at h
 exact h
theorem es_all {α:Type} {f:α→List V}(l:List (List V))(h: ∀x∈l,∃y,x=f y): ∃l':List α,l=es f l':=by
 obtain⟨l',h1,_⟩:=es_of (Q:=fun _=>True) l fun x hx=>by obtain⟨y,hy⟩:=h x hx;exact⟨y,hy,trivial⟩
 exact⟨l',h1⟩
theorem fit_gate(h:Fit Try.prog B (n+2) 48 vs): ∃g:DGate,vs=cGate g:=by
 rw[Fit,Try.underlying48]at h
 simp only[FitF]at h
 obtain⟨_,_,rfl,h0,_,_,rfl,h1,_,_,rfl,h2,rfl⟩:=h
 obtain⟨a,rfl⟩:=fit_int h0
 obtain⟨b,rfl⟩:=fit_int h1
 obtain⟨c,rfl⟩:=fit_bool h2
 exact⟨⟨a,b,c⟩,rfl⟩
theorem fit_group(h:Fit Try.prog B (n+2) 39 vs): ∃g:DGroup,vs=cGroup g:=by
 rw[Fit,Try.underlying39]at h
 simp only[FitF]at h
 obtain⟨_,_,rfl,h0,_,_,rfl,h1,rfl⟩:=h
 obtain⟨a,rfl⟩:=fit_int h0
 obtain⟨b,rfl⟩:=fit_int h1
 exact⟨⟨a,b⟩,rfl⟩
theorem fit_gates(h:Fit Try.prog B (n+3) 22 vs): ∃l:List DGate,vs=[.sl .no 3 (es cGate l)]∧B 48 l.length:=by
 rw[Fit,Try.underlying22]at h
 simp only at h
 obtain⟨l,rfl,hb,h⟩:=h
 obtain⟨l',rfl⟩:=es_all (f:=cGate) l fun x hx=>fit_gate (h x hx)
 rw[cells48]
 exact⟨l',rfl,by simpa using hb⟩
theorem fit_groups(h:Fit Try.prog B (n+3) 23 vs): ∃l:List DGroup,vs=[.sl .no 2 (es cGroup l)]∧B 39 l.length:=by
 rw[Fit,Try.underlying23]at h
 simp only at h
 obtain⟨l,rfl,hb,h⟩:=h
 obtain⟨l',rfl⟩:=es_all (f:=cGroup) l fun x hx=>fit_group (h x hx)
 rw[cells39]
 exact⟨l',rfl,by simpa using hb⟩
def Reach(e:TypeId)(k:Nat):Prop:=k≤maxLen∧k*Try.prog.bytesOf e≤reachBytes
theorem bytes48:Try.prog.bytesOf 48=24:=by kernel_rfl
theorem bytes39:Try.prog.bytesOf 39=16:=by kernel_rfl
theorem fit_trap(h:Fit Try.prog Reach (n+4) 25 vs): ∃t:DTrap,vs=dV t∧ShortD t:=by
 rw[Fit,Try.underlying25]at h
 simp only[FitF]at h
 obtain⟨_,_,rfl,h0,_,_,rfl,h1,_,_,rfl,h2,_,_,rfl,h3,_,_,rfl,h4,rfl⟩:=h
 obtain⟨a,rfl⟩:=fit_int h0
 obtain⟨b,rfl⟩:=fit_int h1
 obtain⟨c,rfl⟩:=fit_int h2
 obtain⟨d,rfl,q1⟩:=fit_gates h3
 obtain⟨e,rfl,q2⟩:=fit_groups h4
 simp only[Reach,bytes48,bytes39,reachBytes]at q1 q2
 exact⟨⟨a,b,c,d,e⟩,rfl,by simp only;omega,by simp only;omega⟩
end Go.Proofs.Ytbcjofkfgpbhmaa

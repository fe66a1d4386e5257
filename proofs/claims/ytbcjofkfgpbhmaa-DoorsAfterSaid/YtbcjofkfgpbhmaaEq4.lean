/-
  DoorsAfter: its equation.
-/
import Derived.Test.YtbcjofkfgpbhmaaEq3
import Derived.Test.YtbcjofkfgpbhmaaEq1
set_option linter.unusedSimpArgs false
set_option linter.unusedVariables false
namespace Go.Proofs.Ytbcjofkfgpbhmaa
open Go.Ab
theorem MapD.top {s:Stk} {lm:Nat} {X:List (List Int×Int)→Ab.Loc}(hm: ∀K,(X K).get lm=some (.mp none K))(hp: ∀K K',(X K).put lm (.mp none K')=X K'):MapD s.length lm (s.length+1) (fun K=>X K::s) where
 len:=fun K=>by simp
 ltm:=by omega
 mem:=fun K=>by rw[sget_top,hm]
 put:=fun K K'=>by rw[sput_top,hp]
theorem e_openC(t:DTrap)(hs:ShortD t)(c:List Int)(hc:c.length<1000000000000)(lab s):den T 74 [.agg (dV t), .sl .no 1 (es cInt c)] lab s=some (i64 (openR t c),s):=by
 have h1:=fun lab s=>e_CheckR t hs lab s
 have h2:=fun lab s=>e_IsChange t hs c hc lab s
 unfold openR
 cases hd:doorB t<;>simp only[hd,Bool.false_eq_true,if_false,if_true]at h1
 ·rw[den_fn t74 _ _ _ rfl]
  simp only[b74]
  simp (maxSteps:=1000000) (disch:=first|omega|assumption|decide +kernel|(simp;done)|(simp;omega)|fail) [h1]
 ·cases hi:isChangeB t.hands t.gates.length c<;>rw[hi]at h2
  ·rw[den_fn t74 _ _ _ rfl]
   simp only[b74]
   simp (maxSteps:=1000000) (disch:=first|omega|assumption|decide +kernel|(simp;done)|(simp;omega)|fail) [h1,h2]
  ·by_cases hT:t.turns=0
   ·have hT':(t.turns=0)=True:=by simp[hT]
    rw[den_fn t74 _ _ _ rfl]
    simp only[b74]
    simp (maxSteps:=1000000) (disch:=first|omega|assumption|decide +kernel|(simp;done)|(simp;omega)|fail) [h1,h2,hT']
   ·rw[den_fn t74 _ _ _ rfl]
    simp only[b74]
    simp (maxSteps:=1000000) (disch:=first|omega|assumption|decide +kernel|(simp;done)|(simp;omega)|fail) [h1,h2,hT]
theorem least_call(t:DTrap)(c:List Int)(he:openR t c=0)(X:List (List Int×Int)→Ab.Loc)(s:Stk)(lm:Nat)(hm: ∀K,(X K).get lm=some (.mp none K))(hp: ∀K K',(X K).put lm (.mp none K')=X K'):
 ∃K',∀lab,den T 75 [.agg (dV (changedT t c)), .mp (.ptr s.length lm 0)] lab (X []::s)=some (.tup [i64 (leastT t (t.turns.toNat-1) c), .sl .no 1 (es cInt (replyS t c))],X K'::s):=by
 obtain⟨ho,hi,hT⟩:=open_ok he
 have htu:=ho.tu
 have hk:((t.turns.toNat-1+1:Nat):Int)=t.turns:=by omega
 have h:=fun lab=>e_least (t0:=t) (@e_worthR t (t.turns.toNat-1) (by omega)) (MapD.top (s:=s) hm hp) (changedT t c) (changed_same (SameS.rfl' t) c) (changed_ok ho c) hk.symm Mem.nil lab
 rw[leastV_changed,firstV_changed]at h
 exact⟨_,h⟩
set_option maxHeartbeats 4000000 in
theorem e_AfterR(t:DTrap)(hs:ShortD t)(c:List Int)(hc:c.length<1000000000000)(lab s):den T 37 [.agg (dV t), .sl .no 1 (es cInt c)] lab s=some (.tup [i64 (afterR t c).1,i64 (afterR t c).2],s):=by
 have h1:=fun lab s=>e_openC t hs c hc lab s
 unfold afterR
 by_cases he:openR t c=0
 ·obtain⟨ho,hi,hT⟩:=open_ok he
  obtain⟨hcm,_,_⟩:=change_all ho hi
  obtain⟨_,hp,hr⟩:=mem_choices.1 hcm
  have hcg:=fun lab s=>e_Changed t hs c hc hr hp lab s
  obtain⟨K',hl⟩:=least_call t c he (fun K=>[(32, .cell (dV t)),(304, .mp none K)]) s 304 (fun K=>rfl) (fun K K'=>rfl)
  rw[he]at h1
  rw[if_pos he]
  generalize leastT t (t.turns.toNat-1) c=w at*
  generalize replyS t c=R at*
  generalize changedT t c=u2 at*
  rw[den_fn t37 _ _ _ rfl]
  simp only[b37]
  simp (maxSteps:=1000000) (disch:=first|omega|assumption|decide +kernel|(simp;done)|(simp;omega)|fail) [h1,hcg,hl]
 ·rw[if_neg he]
  generalize openR t c=e at*
  rw[den_fn t37 _ _ _ rfl]
  simp only[b37]
  simp (maxSteps:=1000000) (disch:=first|omega|assumption|decide +kernel|(simp;done)|(simp;omega)|fail) [h1,he]
set_option maxHeartbeats 4000000 in
theorem e_ReplyR(t:DTrap)(hs:ShortD t)(c:List Int)(hc:c.length<1000000000000)(lab s):den T 38 [.agg (dV t), .sl .no 1 (es cInt c)] lab s=some (.tup [.sl .no 1 (es cInt (replyR t c).1),i64 (replyR t c).2],s):=by
 have h1:=fun lab s=>e_openC t hs c hc lab s
 unfold replyR
 by_cases he:openR t c=0
 ·obtain⟨ho,hi,hT⟩:=open_ok he
  obtain⟨hcm,_,_⟩:=change_all ho hi
  obtain⟨_,hp,hr⟩:=mem_choices.1 hcm
  have hcg:=fun lab s=>e_Changed t hs c hc hr hp lab s
  obtain⟨K',hl⟩:=least_call t c he (fun K=>[(32, .cell (dV t)),(304, .mp none K)]) s 304 (fun K=>rfl) (fun K K'=>rfl)
  rw[he]at h1
  rw[if_pos he]
  generalize leastT t (t.turns.toNat-1) c=w at*
  generalize replyS t c=R at*
  generalize changedT t c=u2 at*
  rw[den_fn t38 _ _ _ rfl]
  simp only[b38]
  simp (maxSteps:=1000000) (disch:=first|omega|assumption|decide +kernel|(simp;done)|(simp;omega)|fail) [h1,hcg,hl]
 ·rw[if_neg he]
  generalize openR t c=e at*
  rw[den_fn t38 _ _ _ rfl]
  simp only[b38]
  simp (maxSteps:=1000000) (disch:=first|omega|assumption|decide +kernel|(simp;done)|(simp;omega)|fail) [h1,he]
theorem replyR_len {t:DTrap} {c:List Int}:(replyR t c).1.length<4611686018427387904:=by
 unfold replyR
 split
 ·rename_i he
  obtain⟨ho,_,_⟩:=open_ok he
  obtain⟨m,_,h2,h3⟩:=reply_find (t:=t) (c:=c)
  have:=movesT_len h3
  have:=ho.ol
  simp only[h2];omega
 ·simp
set_option maxHeartbeats 8000000 in
theorem e_DoorsAfter(t:DTrap)(hs:ShortD t)(c:List Int)(hcl:c.length<4611686018427387904)(lab s):den T 8 [.agg (dV t), .sl .no 1 (es cInt c)] lab s=some (.bool true,s):=by
 have hfa:=fun lab s=>e_Far t hs lab s
 have hwo:=fun lab s=>e_worksD lab s
 cases hf:farD t<;>rw[hf]at hfa
 rotate_left
 ·rw[den_fn t8 _ _ _ rfl]
  simp only[b8]
  simp (maxSteps:=1000000) (disch:=first|omega|assumption|decide +kernel|(simp;done)|(simp;omega)|fail) [hfa,hwo]
 by_cases hc40:c.length≤40
 rotate_left
 ·have hc40':(40:Int)<c.length:=by omega
  rw[den_fn t8 _ _ _ rfl]
  simp only[b8]
  simp (maxSteps:=1000000) (disch:=first|omega|assumption|decide +kernel|(simp;done)|(simp;omega)|fail) [hfa,hwo,hc40']
 have hc40': ¬(40:Int)<c.length:=by omega
 have hb:t.gates.length≤40∧t.groups.length≤40:=by
  simp only[farD,hugeB,Bool.or_eq_false_iff,decide_eq_false_iff_not]at hf;omega
 have hcp:=fun lab loc s k0 k1=>e_CopyD t hs lab loc s k0 k1
 have ha1:=fun lab s=>e_After t hs c (by omega) lab s
 have ha2:=fun lab s=>e_AfterR t hs c (by omega) lab s
 have hr1:=fun lab s=>e_Reply t hs c (by omega) lab s
 have hr2:=fun lab s=>e_ReplyR t hs c (by omega) lab s
 have hsd:=fun lab s=>e_SameD t hb.1 hb.2 lab s
 have hs1:=fun lab s=>e_Same2 (replyR t c).1 (replyR t c).1 replyR_len replyR_len lab s
 have hs2:=fun lab s=>e_Same2 c c (by omega) (by omega) lab s
 simp only[decide_true]at hs1 hs2
 generalize afterR t c=A at*
 generalize replyR t c=R at*
 by_cases hne:es cInt c=[]
 ·rw[hne]at ha1 ha2 hr1 hr2 hs2
  rw[den_fn t8 _ _ _ rfl]
  simp only[b8]
  simp (maxSteps:=1000000) (disch:=first|omega|assumption|decide +kernel|(simp;done)|(simp;omega)|fail) [run_drawnK,orSlow_none,appD_full_nil,appK_full_nil,hfa,hwo,hc40',hcp,ha1,ha2,hr1,hr2,hsd,hs1,hs2,hne]
 ·have hl1:(es cInt c).length*8≤140737488355328:=by rw[es_length];omega
  have hl2:(es cInt c).length<140737488355328:=by rw[es_length];omega
  have hEl:(es cInt c).length=c.length:=es_length _ _
  generalize hE:es cInt c=E at*
  have hE40: ¬(40:Int)<E.length:=by omega
  rw[den_fn t8 _ _ _ rfl]
  simp only[b8]
  simp (maxSteps:=1000000) (disch:=first|omega|assumption|decide +kernel|(simp;done)|(simp;omega)|fail) [run_drawnK,orSlow_none,appD_full,appK_full,hfa,hwo,hc40',hE40,hcp,ha1,ha2,hr1,hr2,hsd,hs1,hs2,hl1,hl2,hne]
end Go.Proofs.Ytbcjofkfgpbhmaa

/-
  What the arguments of the laws of doors read as.
-/
namespace Go.Proofs.Ytbcjofkfgpbhmaa
open Go.Ab
set_option maxRecDepth 100000
theorem cells48:Try.prog.cellsOf 48=3:=by kernel_rfl
theorem cells39:Try.prog.cellsOf 39=2:=by kernel_rfl
theorem cells3:Try.prog.cellsOf 3=1:=by kernel_rfl
variable {B : TypeId → Nat → Prop} {n : Nat} {vs : List V}
theorem fit_int(h:Fit Try.prog B (n+1) 3 vs): ∃x,vs=[i64 x]:=by
 simp only[Fit,Try.underlying3]at h
 exact h
theorem fit_bool(h:Fit Try.prog B (n+1) 4 vs): ∃x,vs=[.bool x]:=by
 simp only[Fit,Try.underlying4]at h
 exact h
theorem es_all {α:Type} {f:α→List V}(l:List (List V))(h: ∀x∈l,∃y,x=f y): ∃l':List α,l=es f l':=by
 obtain⟨l',h1,_⟩:=es_of (Q:=fun _=>True) l fun x hx=>by obtain⟨y,hy⟩:=h x hx;exact⟨y,hy,trivial⟩
 exact⟨l',h1⟩
theorem fit_ints(h:Fit Try.prog B (n+2) 26 vs): ∃l:List Int,vs=[.sl .no 1 (es cInt l)]∧B 3 l.length:=by
 rw[Fit,Try.underlying26]at h
 simp only at h
 obtain⟨l,rfl,hb,h⟩:=h
 obtain⟨l',rfl⟩:=es_all (f:=cInt) l fun x hx=>by obtain⟨y,hy⟩:=fit_int (h x hx);exact⟨y,hy⟩
 rw[cells3]
 exact⟨l',rfl,by simpa using hb⟩
theorem fit_gate(h:Fit Try.prog B (n+2) 48 vs): ∃g:DGate,vs=cGate g:=by
 rw[Fit,Try.underlying48]at h
 simp only[FitF]at h
 obtain⟨_,_,rfl,h0,_,_,rfl,h1,_,_,rfl,h2,rfl⟩:=h
 obtain⟨a,rfl⟩:=fit_int h0
 obtain⟨b,rfl⟩:=fit_int h1
 obtain⟨c,rfl⟩:=fit_bool h2
 exact⟨⟨a,b,c⟩,rfl⟩
theorem fit_group(h:Fit Try.prog B (n+2) 39 vs): ∃g:DGroup,vs=cGroup g:=by
 rw[Fit,Try.underlying39]at h
 simp only[FitF]at h
 obtain⟨_,_,rfl,h0,_,_,rfl,h1,rfl⟩:=h
 obtain⟨a,rfl⟩:=fit_int h0
 obtain⟨b,rfl⟩:=fit_int h1
 exact⟨⟨a,b⟩,rfl⟩
theorem fit_gates(h:Fit Try.prog B (n+3) 22 vs): ∃l:List DGate,vs=[.sl .no 3 (es cGate l)]∧B 48 l.length:=by
 rw[Fit,Try.underlying22]at h
 simp only at h
 obtain⟨l,rfl,hb,h⟩:=h
 obtain⟨l',rfl⟩:=es_all (f:=cGate) l fun x hx=>fit_gate (h x hx)
 rw[cells48]
 exact⟨l',rfl,by simpa using hb⟩
theorem fit_groups(h:Fit Try.prog B (n+3) 23 vs): ∃l:List DGroup,vs=[.sl .no 2 (es cGroup l)]∧B 39 l.length:=by
 rw[Fit,Try.underlying23]at h
 simp only at h
 obtain⟨l,rfl,hb,h⟩:=h
 obtain⟨l',rfl⟩:=es_all (f:=cGroup) l fun x hx=>fit_group (h x hx)
 rw[cells39]
 exact⟨l',rfl,by simpa using hb⟩
def Reach(e:TypeId)(k:Nat):Prop:=k≤maxLen∧k*Try.prog.bytesOf e≤reachBytes
theorem bytes3:Try.prog.bytesOf 3=8:=by kernel_rfl
theorem bytes48:Try.prog.bytesOf 48=24:=by kernel_rfl
theorem bytes39:Try.prog.bytesOf 39=16:=by kernel_rfl
theorem reach_ints {k:Nat}(h:Reach 3 k):k<4611686018427387904:=by
 simp only[Reach,bytes3,reachBytes]at h;omega
theorem fit_trap(h:Fit Try.prog Reach (n+4) 25 vs): ∃t:DTrap,vs=dV t∧ShortD t:=by
 rw[Fit,Try.underlying25]at h
 simp only[FitF]at h
 obtain⟨_,_,rfl,h0,_,_,rfl,h1,_,_,rfl,h2,_,_,rfl,h3,_,_,rfl,h4,rfl⟩:=h
 obtain⟨a,rfl⟩:=fit_int h0
 obtain⟨b,rfl⟩:=fit_int h1
 obtain⟨c,rfl⟩:=fit_int h2
 obtain⟨d,rfl,q1⟩:=fit_gates h3
 obtain⟨e,rfl,q2⟩:=fit_groups h4
 simp only[Reach,bytes48,bytes39,reachBytes]at q1 q2
 exact⟨⟨a,b,c,d,e⟩,rfl,by simp only;omega,by simp only;omega⟩
end Go.Proofs.Ytbcjofkfgpbhmaa

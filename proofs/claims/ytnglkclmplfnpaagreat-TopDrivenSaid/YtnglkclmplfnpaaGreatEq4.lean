/-
  Doors: changed, After.
-/
import Derived.Test.YtnglkclmplfnpaaGreatEq3
set_option linter.unusedSimpArgs false
set_option linter.unusedVariables false
namespace Go.Proofs.YtnglkclmplfnpaaGreat
open Go.Ab
theorem bits_is {t:DTrap} {c:List Int}:(bitsR t c).2=isChangeB t.hands t.gates.length c:=by
 unfold bitsR isChangeB
 split<;>rename_i h<;>simp[h]
theorem bits_mk {t:DTrap} {c:List Int}(h:isChangeB t.hands t.gates.length c=true):(bitsR t c).1=(maskL c:Nat):=by
 unfold bitsR
 simp only[isChangeB,Bool.and_eq_true]at h
 rw[if_pos h.2]
theorem change_all {t:DTrap}(h:DoorOk t) {c:List Int}(hc:isChangeB t.hands t.gates.length c=true):c∈choicesS t.hands.toNat t.gates.length∧c∈allL 5∧maskL c<32:=by
 have hh:t.hands=(t.hands.toNat:Int):=by have:=h.ha;omega
 rw[hh]at hc
 have h1:=isChange_mem.1 hc
 have h2:=choices_up (by have:=h.gl;omega) h1
 exact⟨h1,h2,mask_lt 5 (by decide) c h2⟩
end Go.Proofs.YtnglkclmplfnpaaGreat

/-
  Doors, the law's helpers: Copy, Turning, ready, all, worth, after.
-/
namespace Go.Proofs.YtnglkclmplfnpaaGreat
open Go.Ab
theorem e_CopyD(t:DTrap)(hs:ShortD t)(lab)(loc:Ab.Loc)(s:Stk)(k0:loc.get lab=none)(k1:loc.get (lab+1000)=none):
 den T 10 [.agg (dV t)] lab (loc::s)=some (.agg [i64 t.chambers,i64 t.turns,i64 t.hands, .asl s.length lab 3 t.gates.length 0 t.gates.length, .asl s.length (lab+1000) 2 t.groups.length 0 t.groups.length],
  (loc.put lab (.arr 3 (es cGate t.gates))).put (lab+1000) (.arr 2 (es cGroup t.groups))::s):=by
 have hg:=hs.gates
 have ho:=hs.groups
 rw[den_fn t10 _ _ _ rfl]
 simp only[b10]
 simp (maxSteps:=1000000) (disch:=first|omega|assumption|decide +kernel|(simp;done)|(simp;omega)|fail) [appmD_es,run_drawnK,orSlow_none,k0,k1]
theorem e_Huge(t:DTrap)(lab s):den T 4 [.agg (dV t)] lab s=some (.bool (decide (40<t.gates.length)||decide (40<t.groups.length)),s):=by
 rw[den_fn t4 _ _ _ rfl]
 simp only[b4]
 by_cases h1:40<t.gates.length
 ·have h1':(40:Int)<t.gates.length:=by omega
  simp (maxSteps:=1000000) (disch:=first|omega|assumption|decide +kernel|(simp;done)|(simp;omega)|fail) [h1,h1']
 ·have h1': ¬(40:Int)<t.gates.length:=by omega
  by_cases h2:40<t.groups.length
  ·have h2':(40:Int)<t.groups.length:=by omega
   simp (maxSteps:=1000000) (disch:=first|omega|assumption|decide +kernel|(simp;done)|(simp;omega)|fail) [h1,h1',h2,h2']
  ·have h2': ¬(40:Int)<t.groups.length:=by omega
   simp (maxSteps:=1000000) (disch:=first|omega|assumption|decide +kernel|(simp;done)|(simp;omega)|fail) [h1,h1',h2,h2']
end Go.Proofs.YtnglkclmplfnpaaGreat

/-
  Doors, the reference: WaysOf, AreMoves.
-/
namespace Go.Proofs.YtnglkclmplfnpaaGreat
open Go.Ab
def wayG(p c:Int)(g:DGate):Bool:=g.op&&(decide (g.a=p)&&decide (g.b=c)||decide (g.b=p)&&decide (g.a=c))
theorem wayB_eq(gs:List DGate)(p c:Int):wayB gs p c=gs.any (wayG p c):=rfl
theorem foldl_or {α:Type}(f:α→Bool): ∀(l:List α) (b:Bool),l.foldl (fun b x=>b||f x) b=(b||l.any f)
 |[],b=>by simp
 |x::l,b=>by rw[List.foldl_cons,foldl_or f l,List.any_cons,Bool.or_assoc]
set_option maxHeartbeats 8000000 in
theorem e_WaysOf_l1(t:DTrap)(h:DoorOk t)(p c:Int)(out:List Int)(s:Stk):
 Run T b31l1 [(1,i64 p),(2, .ptr s.length 32 0),(5, .sl (.own s.length 81) 1 (es cInt out)),(6,i64 c),(7, .bool false),(8,i64 0)] ([(32, .cell (dV t)),(81, .tok out.length)]::s)=
  some (.exit 2,[(1,i64 p),(2, .ptr s.length 32 0),(5, .sl (.own s.length 81) 1 (es cInt out)),(6,i64 c),(7, .bool (wayB t.gates p c)),(8,i64 t.gates.length),(20, .bool false)],[(32, .cell (dV t)),(81, .tok out.length)]::s):=by
 have key:=loop_fold (T:=Go.Proofs.YtnglkclmplfnpaaGreat.T) (live:=[1,2,5,6,7,8]) (keep:=[32,81,960,976,1056]) (b:=d31l1) t.gates (fun _ _=>True) (fun b g=>b||wayG p c g)
  (fun k b=>[(1,i64 p),(2, .ptr s.length 32 0),(5, .sl (.own s.length 81) 1 (es cInt out)),(6,i64 c),(7, .bool b),(8,i64 (k:Nat))]) (fun _ _=>[(32, .cell (dV t)),(81, .tok out.length)]::s)
  (fun b=>(.exit 2,[(1,i64 p),(2, .ptr s.length 32 0),(5, .sl (.own s.length 81) 1 (es cInt out)),(6,i64 c),(7, .bool b),(8,i64 t.gates.length),(20, .bool false)],[(32, .cell (dV t)),(81, .tok out.length)]::s))
  (by simp) ?_ ?_ ?_ false trivial [(1,i64 p),(2, .ptr s.length 32 0),(5, .sl (.own s.length 81) 1 (es cInt out)),(6,i64 c),(7, .bool false),(8,i64 0)] ([(32, .cell (dV t)),(81, .tok out.length)]::s) (by simp) (by simp)
 ·rw[foldl_or,Bool.false_or,←wayB_eq]at key
  exact key
 ·intro k b hk _
  have hl:=h.gl
  have hk2:(k:Int)<t.gates.length:=by omega
  generalize hG:t.gates[k]=G at*
  have hw:=wk k (by omega)
  cases b
  ·unfold wayG
   cases c1:G.op
   ·simp (maxSteps:=1000000) (disch:=first|omega|assumption|decide +kernel|(simp;done)|(simp;omega)|fail) [hk,hk2,hG,c1,hw]
   ·by_cases c2:G.a=p
    ·by_cases c3:G.b=c
     ·simp (maxSteps:=1000000) (disch:=first|omega|assumption|decide +kernel|(simp;done)|(simp;omega)|fail) [hk,hk2,hG,c1,c2,c3,hw]
     ·by_cases c4:G.b=p
      ·have c5: ¬p=c:=fun e=>c3 (c4.trans e)
       simp (maxSteps:=1000000) (disch:=first|omega|assumption|decide +kernel|(simp;done)|(simp;omega)|fail) [hk,hk2,hG,c1,c2,c3,c4,c5,hw]
      ·simp (maxSteps:=1000000) (disch:=first|omega|assumption|decide +kernel|(simp;done)|(simp;omega)|fail) [hk,hk2,hG,c1,c2,c3,c4,hw]
    ·by_cases c4:G.b=p
     ·by_cases c5:G.a=c
      ·have c6: ¬c=p:=fun e=>c2 (c5.trans e)
       simp (maxSteps:=1000000) (disch:=first|omega|assumption|decide +kernel|(simp;done)|(simp;omega)|fail) [hk,hk2,hG,c1,c4,c5,c6,hw]
      ·simp (maxSteps:=1000000) (disch:=first|omega|assumption|decide +kernel|(simp;done)|(simp;omega)|fail) [hk,hk2,hG,c1,c2,c4,c5,hw]
     ·simp (maxSteps:=1000000) (disch:=first|omega|assumption|decide +kernel|(simp;done)|(simp;omega)|fail) [hk,hk2,hG,c1,c2,c4,hw]
  ·simp only[Bool.true_or]
   simp (maxSteps:=1000000) (disch:=first|omega|assumption|decide +kernel|(simp;done)|(simp;omega)|fail) [hk,hk2,hG,hw]
 ·intro k b hk _;trivial
 ·intro b _
  simp
def wayAdd(gs:List DGate)(p:Int)(a:List Int)(k:Nat):List Int:=if wayB gs p (k:Int)=true then a ++[(k:Int)]else a
theorem wayAdd_all(gs:List DGate)(p:Int)(n:Nat):(List.range n).foldl (wayAdd gs p) []=(rangeI n).filter (wayB gs p):=by
 have: ∀(l:List Nat) (a:List Int),l.foldl (wayAdd gs p) a=a ++(l.map fun(i:Nat)=>(i:Int)).filter (wayB gs p):=by
  intro l
  induction l with
  |nil=>intro a;simp
  |cons x r ih=>
    intro a
    rw[List.foldl_cons,ih]
    unfold wayAdd
    by_cases hx:wayB gs p x=true<;>simp[hx]
 rw[this];rfl
set_option maxHeartbeats 4000000 in
theorem e_WaysOf(t:DTrap)(h:DoorOk t)(p:Int)(lab s):den T 31 [.agg (dV t),i64 p] lab s=some (.sl .no 1 (es cInt (waysS t.chambers.toNat t.gates p)),s):=by
 have hch:=h.ch
 have key:=loop_fold (T:=Go.Proofs.YtnglkclmplfnpaaGreat.T) (live:=[1,2,5,6]) (keep:=[32,81,1056]) (b:=d31l0) (List.range t.chambers.toNat) (fun k (a:List Int)=>a.length≤k) (wayAdd t.gates p)
  (fun k a=>[(1,i64 p),(2, .ptr s.length 32 0),(5, .sl (.own s.length 81) 1 (es cInt a)),(6,i64 (k:Nat))]) (fun _ a=>[(32, .cell (dV t)),(81, .tok a.length)]::s)
  (fun a=>(.exit 0,[(1,i64 p),(2, .ptr s.length 32 0),(5, .sl (.own s.length 81) 1 (es cInt a)),(6,i64 t.chambers.toNat),(13, .bool false)],[(32, .cell (dV t)),(81, .tok a.length)]::s))
  (by simp) ?_ ?_ ?_ [] (by simp) [(5, .sl (.own s.length 81) 1 []),(1,i64 p),(2, .ptr s.length 32 0),(5, .sl .full 1 []),(6,i64 0)] ([(32, .cell (dV t)),(81, .tok 0)]::s) (by simp) (by simp)
 ·rw[wayAdd_all]at key
  unfold waysS
  have hc2:t.chambers=((t.chambers.toNat:Nat):Int):=by omega
  generalize (rangeI t.chambers.toNat).filter (wayB t.gates p)=L at*
  change Run T b31l0 _ _=_ at key
  dsimp only
  cases L with
  |nil=>
    rw[den_fn t31 _ _ _ rfl]
    simp only[b31]
    simp (maxSteps:=1000000) (disch:=first|omega|assumption|decide +kernel|(simp;done)|(simp;omega)|fail) [key]<;>rfl
  |cons x L=>
    rw[if_neg (List.cons_ne_nil x L)]
    generalize hE:es cInt (x::L)=E at*
    have hne: ¬(E.length=0):=by rw[←hE];simp[es]
    have hne2: ¬((E.length:Int)=0):=by omega
    rw[den_fn t31 _ _ _ rfl]
    simp only[b31]
    simp (maxSteps:=1000000) (disch:=first|omega|assumption|decide +kernel|(simp;done)|(simp;omega)|fail) [key,hne,hne2]
 ·intro k a hk hi
  simp only[List.length_range]at hk
  simp only[List.getElem_range]
  have hk2:(k:Int)<t.chambers:=by omega
  have hl1:=e_WaysOf_l1 t h p (k:Nat) a s
  have e0:es cInt a ++[[i64 (k:Nat)]]=es cInt (a ++[(k:Int)]):=by simp[es]
  unfold wayAdd
  cases hw:wayB t.gates p (k:Nat)<;>rw[hw]at hl1
  ·simp (maxSteps:=1000000) (disch:=first|omega|assumption|decide +kernel|(simp;done)|(simp;omega)|fail) [hk2,hl1,wk k (by omega)]
  ·simp (maxSteps:=1000000) (disch:=first|omega|assumption|decide +kernel|(simp;done)|(simp;omega)|fail) [hk2,hl1,e0,appK_own1,wk k (by omega)]
 ·intro k a hk hi
  unfold wayAdd
  split<;>(try simp only[List.length_append,List.length_cons,List.length_nil])<;>omega
 ·intro a hi
  simp only[List.length_range]
  have hc2:((t.chambers.toNat:Nat):Int)=t.chambers:=by omega
  simp (maxSteps:=1000000) (disch:=first|omega|assumption|decide +kernel|(simp;done)|(simp;omega)|fail) [hc2]
end Go.Proofs.YtnglkclmplfnpaaGreat

/-
  Doors, the reference: Changed, Moved.
-/
namespace Go.Proofs.YtnglkclmplfnpaaGreat
open Go.Ab
def flip1(g:DGate):DGate:= {g with op:= !g.op}
def flipAll(c:List Int)(gs:List DGate):List DGate:=c.foldl (fun gs j=>gs.modify j.toNat flip1) gs
theorem flipAll_get: ∀(c:List Int) (gs:List DGate) (i:Nat),c.Pairwise (· < ·)→(∀y∈c,0≤y)→(flipAll c gs)[i]? =(gs[i]?).map fun g=>if (i:Int)∈c then flip1 g else g
 |[],gs,i,_,_=>by simp[flipAll]
 |j::c,gs,i,h,h0=>by
   have ih:=flipAll_get c (gs.modify j.toNat flip1) i (List.pairwise_cons.1 h).2 fun y hy=>h0 y (by simp[hy])
   have hj:=h0 j (by simp)
   have hr:=(List.pairwise_cons.1 h).1
   simp only[flipAll,List.foldl_cons]at ih⊢
   rw[ih,List.getElem?_modify]
   cases hg:gs[i]? with
   |none=>simp
   |some g=>
     by_cases e:j.toNat=i
     ·have e2:(i:Int)=j:=by omega
      have hn: ¬j∈c:=fun hc=>by have:=hr j hc;omega
      simp[e,e2,hn]
     ·have e2: ¬(i:Int)=j:=by omega
      simp[e,e2]
theorem flipAll_eq {c:List Int} {gs:List DGate}(h:c.Pairwise (· < ·))(h0: ∀y∈c,0≤y):flipAll c gs=flipG gs c:=by
 apply List.ext_getElem?
 intro i
 rw[flipAll_get c gs i h h0,flipS_get,Nat.zero_add];rfl
def changedT(t:DTrap)(c:List Int):DTrap:= {t with gates:=flipG t.gates c}
abbrev zeroT:List V:=[i64 0,i64 0,i64 0, .sl .full 3 [], .sl .full 2 []]
@[simp] theorem flipAt_len(gs:List DGate)(j:Nat):(gs.modify j flip1).length=gs.length:=by simp
theorem es_setGate(gs:List DGate)(j:Nat)(hj:j<gs.length)(a b:Int)(o:Bool)(h1:gs[j].a=a)(h2:gs[j].b=b)(h3:gs[j].op=o):(es cGate gs).set j [i64 a,i64 b, .bool (!o)]=es cGate (gs.modify j flip1):=by
 apply List.ext_getElem?
 intro i
 simp only[es,List.getElem?_set,List.getElem?_map,List.getElem?_modify,List.length_map]
 by_cases e:j=i
 ·subst e
  simp[hj,flip1,←h1,←h2,←h3]
 ·simp[e]
abbrev chgF(t:DTrap)(d:Nat)(gs:List DGate)(rs:List DGroup):Ab.Loc:=[(32, .cell (dV t)),(64, .cell zeroT),(144, .arr 3 (es cGate gs)),(1144, .arr 2 (es cGroup rs)),(80, .cell [i64 t.chambers,i64 t.turns,i64 t.hands, .asl d 144 3 t.gates.length 0 t.gates.length, .asl d 1144 2 t.groups.length 0 t.groups.length])]
set_option maxHeartbeats 4000000 in
theorem e_Changed_l(t:DTrap)(hs:ShortD t)(c:List Int)(hc:c.length<1000000000000)(hr: ∀y∈c,0≤y∧y<t.gates.length)(s:Stk):
 Run T b12l0 [(1, .sl .no 1 (es cInt c)),(4, .ptr s.length 64 0),(5, .ptr s.length 80 0),(6,i64 0)] (chgF t s.length t.gates t.groups::s)=
  some (.exit 0,[(1, .sl .no 1 (es cInt c)),(4, .ptr s.length 64 0),(5, .ptr s.length 80 0),(6,i64 c.length),(13, .bool false)],chgF t s.length (flipAll c t.gates) t.groups::s):=by
 have hgl:=hs.gates
 refine loop_fold (T:=Go.Proofs.YtnglkclmplfnpaaGreat.T) (live:=[1,4,5,6]) (keep:=[32,64,80,144,1144]) (b:=d12l0) c (fun _ (gs:List DGate)=>gs.length=t.gates.length) (fun gs j=>gs.modify j.toNat flip1)
  (fun k _=>[(1, .sl .no 1 (es cInt c)),(4, .ptr s.length 64 0),(5, .ptr s.length 80 0),(6,i64 (k:Nat))]) (fun _ gs=>chgF t s.length gs t.groups::s)
  (fun gs=>(.exit 0,[(1, .sl .no 1 (es cInt c)),(4, .ptr s.length 64 0),(5, .ptr s.length 80 0),(6,i64 c.length),(13, .bool false)],chgF t s.length gs t.groups::s))
  (by simp) ?_ ?_ ?_ t.gates rfl [(1, .sl .no 1 (es cInt c)),(4, .ptr s.length 64 0),(5, .ptr s.length 80 0),(6,i64 0)] (chgF t s.length t.gates t.groups::s) (by simp) (by simp)
 ·intro k gs hk hi
  obtain⟨h0,h1⟩:=hr c[k] (List.getElem_mem hk)
  obtain⟨j,hj⟩: ∃j:Nat,c[k]=j:=⟨c[k].toNat,by omega⟩
  have hjl:j<gs.length:=by omega
  have hjl2:j<t.gates.length:=by omega
  have hjt:(c[k]).toNat=j:=by omega
  rw[hjt]
  have hset:=es_setGate gs j hjl gs[j].a gs[j].b gs[j].op rfl rfl rfl
  generalize hG:gs[j]=G at*
  generalize gs.modify j flip1=gs' at*
  have hjl3:(j:Int)<t.gates.length:=by omega
  cases ho:G.op<;>simp only[ho,Bool.not_false,Bool.not_true]at hset
  ·simp (maxSteps:=1000000) (disch:=first|omega|assumption|decide +kernel|(simp;done)|(simp;omega)|fail) [run_drawnK,orSlow_none,hk,hj,hjl,hjl2,hjl3,hi,hG,ho,hset,wk k (by omega)]
  ·simp (maxSteps:=1000000) (disch:=first|omega|assumption|decide +kernel|(simp;done)|(simp;omega)|fail) [run_drawnK,orSlow_none,hk,hj,hjl,hjl2,hjl3,hi,hG,ho,hset,wk k (by omega)]
 ·intro k gs hk hi
  simp[hi]
 ·intro gs hi
  simp
end Go.Proofs.YtnglkclmplfnpaaGreat

/-
  Doors, the reference: Changed, Moved, AreMoves; isTurn, behind.
-/
namespace Go.Proofs.YtnglkclmplfnpaaGreat
open Go.Ab
theorem flipAll_len(c:List Int): ∀gs,(flipAll c gs).length=gs.length:=by
 induction c with
 |nil=>intro gs;rfl
 |cons j c ih=>intro gs;simp only[flipAll,List.foldl_cons]at ih⊢;rw[ih];simp
set_option maxHeartbeats 4000000 in
theorem e_Changed(t:DTrap)(hs:ShortD t)(c:List Int)(hc:c.length<1000000000000)(hr: ∀y∈c,0≤y∧y<t.gates.length)(hp:c.Pairwise (· < ·))(lab s):
 den T 12 [.agg (dV t), .sl .no 1 (es cInt c)] lab s=some (.agg (dV (changedT t c)),s):=by
 have hcp:=fun lab loc s k0 k1=>e_CopyD t hs lab loc s k0 k1
 have hl:=e_Changed_l t hs c hc hr s
 have hlen:=flipAll_len c t.gates
 rw[flipAll_eq hp fun y hy=>(hr y hy).1]at hl hlen
 unfold changedT
 generalize flipG t.gates c=gs at*
 have htk:gs.take t.gates.length=gs:=List.take_of_length_le (by omega)
 rw[den_fn t12 _ _ _ rfl]
 simp only[b12]
 simp (maxSteps:=1000000) (disch:=first|omega|assumption|decide +kernel|(simp;done)|(simp;omega)|fail) [hcp,hl,hlen,htk]
def movedG(m:List Int):Nat→List DGroup→List DGroup
 |_,[]=>[]
 |i,g::r=>(if i<m.length then {g with pos:=m.getD i 0}else g)::movedG m (i+1) r
theorem movedG_get(m:List Int): ∀(i:Nat) (gs:List DGroup) (j:Nat),(movedG m i gs)[j]? =(gs[j]?).map fun g=>if i+j<m.length then {g with pos:=m.getD (i+j) 0}else g
 |_,[],j=>by simp[movedG]
 |i,g::r,0=>by simp[movedG]
 |i,g::r,j+1=>by
   simp only[movedG,List.getElem?_cons_succ,movedG_get m (i+1) r j]
   rw[show i+1+j=i+(j+1)by omega]
@[simp] theorem movedG_len(m:List Int): ∀(i:Nat) (gs:List DGroup),(movedG m i gs).length=gs.length
 |_,[]=>rfl
 |i,g::r=>by simp[movedG,movedG_len m (i+1) r]
def movedT(t:DTrap)(m:List Int):DTrap:= {t with turns:=t.turns-1,groups:=movedG m 0 t.groups}
def moveStep(m:List Int)(gs:List DGroup)(k:Nat):List DGroup:=gs.modify k fun g=> {g with pos:=m.getD k 0}
theorem moveStep_all(m:List Int)(gs:List DGroup):(List.range m.length).foldl (moveStep m) gs=movedG m 0 gs:=by
 have key: ∀n,n≤m.length→ ∀i:Nat,((List.range n).foldl (moveStep m) gs)[i]? =(gs[i]?).map fun g=>if i<n then {g with pos:=m.getD i 0}else g:=by
  intro n
  induction n with
  |zero=>intro _ i;simp
  |succ n ih=>
    intro hn i
    rw[List.range_succ,List.foldl_append]
    simp only[List.foldl_cons,List.foldl_nil]
    unfold moveStep
    rw[List.getElem?_modify]
    have:=ih (by omega) i
    unfold moveStep at this
    rw[this]
    cases hg:gs[i]? with
    |none=>simp
    |some g=>
      by_cases e:n=i
      ·subst e;simp
      ·by_cases h1:i<n
       ·simp[e,h1,show i<n+1 by omega]
       ·simp[e,h1,show¬i<n+1 by omega]
 apply List.ext_getElem?
 intro i
 rw[key m.length (Nat.le_refl _) i,movedG_get]
 simp
theorem es_setGroup(gs:List DGroup)(j:Nat)(hj:j<gs.length)(a f:Int)(h2:gs[j].fish=f)(m:List Int)(ha:m.getD j 0=a):(es cGroup gs).set j [i64 a,i64 f]=es cGroup (moveStep m gs j):=by
 apply List.ext_getElem?
 intro i
 simp only[es,moveStep,List.getElem?_set,List.getElem?_map,List.getElem?_modify,List.length_map]
 by_cases e:j=i
 ·subst e
  subst h2 ha
  simp[hj]
 ·simp[e]
theorem moveStep_len(m gs k):(moveStep m gs k).length=gs.length:=by simp[moveStep]
set_option maxHeartbeats 4000000 in
theorem e_Moved_l(t:DTrap)(hs:ShortD t)(m:List Int)(hm:m.length=t.groups.length)(s:Stk):
 Run T b16l0 [(1, .sl .no 1 (es cInt m)),(4, .ptr s.length 64 0),(5, .ptr s.length 80 0),(6,i64 0)] (chgF t s.length t.gates t.groups::s)=
  some (.exit 0,[(1, .sl .no 1 (es cInt m)),(4, .ptr s.length 64 0),(5, .ptr s.length 80 0),(6,i64 m.length),(13, .bool false)],chgF t s.length t.gates (movedG m 0 t.groups)::s):=by
 have hgl:=hs.groups
 have key:=loop_fold (T:=Go.Proofs.YtnglkclmplfnpaaGreat.T) (live:=[1,4,5,6]) (keep:=[32,64,80,144,1144]) (b:=d16l0) (List.range m.length) (fun _ (gs:List DGroup)=>gs.length=t.groups.length) (moveStep m)
  (fun k _=>[(1, .sl .no 1 (es cInt m)),(4, .ptr s.length 64 0),(5, .ptr s.length 80 0),(6,i64 (k:Nat))]) (fun _ gs=>chgF t s.length t.gates gs::s)
  (fun gs=>(.exit 0,[(1, .sl .no 1 (es cInt m)),(4, .ptr s.length 64 0),(5, .ptr s.length 80 0),(6,i64 m.length),(13, .bool false)],chgF t s.length t.gates gs::s))
  (by simp) ?_ ?_ ?_ t.groups rfl [(1, .sl .no 1 (es cInt m)),(4, .ptr s.length 64 0),(5, .ptr s.length 80 0),(6,i64 0)] (chgF t s.length t.gates t.groups::s) (by simp) (by simp)
 ·rw[moveStep_all]at key
  exact key
 ·intro k gs hk hi
  simp only[List.length_range]at hk
  simp only[List.getElem_range]
  have hkl:k<gs.length:=by omega
  have hkg:k<t.groups.length:=by omega
  have hkm:(k:Int)<t.groups.length:=by omega
  have hg:m.getD k 0=m[k]:=by simp[List.getD,hk]
  have hset:=es_setGroup gs k hkl m[k] gs[k].fish rfl m hg
  generalize hG:gs[k]=G at*
  generalize hx:m[k]=x at*
  generalize moveStep m gs k=gs' at*
  simp (maxSteps:=1000000) (disch:=first|omega|assumption|decide +kernel|(simp;done)|(simp;omega)|fail) [run_drawnK,orSlow_none,hk,hkl,hkg,hkm,hi,hG,hx,hset,wk k (by omega)]
 ·intro k gs hk hi
  rw[moveStep_len,hi]
 ·intro gs hi
  simp
set_option maxHeartbeats 4000000 in
theorem e_Moved(t:DTrap)(hs:ShortD t)(hT:0<t.turns∧t.turns≤4)(m:List Int)(hm:m.length=t.groups.length)(lab s):
 den T 16 [.agg (dV t), .sl .no 1 (es cInt m)] lab s=some (.agg (dV (movedT t m)),s):=by
 have hcp:=fun lab loc s k0 k1=>e_CopyD t hs lab loc s k0 k1
 have hl:=e_Moved_l t hs m hm s
 have hlen:=movedG_len m 0 t.groups
 have hw:IntKind.i64.wrap (t.turns-1)=t.turns-1:=wi _ (by omega) (by omega)
 unfold movedT
 generalize movedG m 0 t.groups=gs at*
 have htk:gs.take t.groups.length=gs:=List.take_of_length_le (by omega)
 rw[den_fn t16 _ _ _ rfl]
 simp only[b16]
 simp (maxSteps:=1000000) (disch:=first|omega|assumption|decide +kernel|(simp;done)|(simp;omega)|fail) [hcp,hl,hlen,hw,htk]
def areAt(t:DTrap)(m:List Int)(k:Nat):Bool:=match t.groups[k]? with
 |some g=>anyB (fun x=>decide (x=m.getD k 0)) (waysS t.chambers.toNat t.gates g.pos)
 |none=>true
def areB(t:DTrap)(m:List Int):Bool:=decide (m.length=t.groups.length)&&allB (areAt t m) (List.range m.length)
theorem areB_iff {t:DTrap} {m:List Int}:areB t m=true↔m∈movesS ((posL t).map (waysS t.chambers.toNat t.gates)):=by
 simp only[areB,Bool.and_eq_true,decide_eq_true_eq,allB,List.all_eq_true,List.mem_range,mem_moves,posL,List.length_map]
 constructor
 ·rintro⟨h1,h2⟩
  refine⟨h1,fun i x p hx hp=> ?_⟩
  have hi:i<m.length:=(List.getElem?_eq_some_iff.1 hx).1
  have:=h2 i hi
  rw[List.getElem?_map]at hp
  obtain⟨g,hg,rfl⟩:=Option.map_eq_some_iff.1 hp
  simp only[areAt,hg,anyB,List.any_eq_true,decide_eq_true_eq,List.getD,hx,Option.getD_some]at this
  obtain⟨y,hy,rfl⟩:=this
  exact hy
 ·rintro⟨h1,h2⟩
  refine⟨h1,fun i hi=> ?_⟩
  have hi2:i<t.groups.length:=by omega
  simp only[areAt,List.getElem?_eq_getElem hi2,anyB,List.any_eq_true,decide_eq_true_eq]
  exact⟨m[i],h2 i m[i] _ (List.getElem?_eq_getElem hi) (by rw[List.getElem?_map,List.getElem?_eq_getElem hi2];rfl),by simp[List.getD,hi]⟩
set_option maxHeartbeats 4000000 in
theorem e_AreMoves(t:DTrap)(h:DoorOk t)(m:List Int)(hml:m.length<1000000)(lab s):den T 13 [.agg (dV t), .sl .no 1 (es cInt m)] lab s=some (.bool (areB t m),s):=by
 unfold areB
 by_cases hm:m.length=t.groups.length
 ·have hol:=h.ol
  have hm2:(m.length:Int)=t.groups.length:=by omega
  have key:=loop_all (T:=Go.Proofs.YtnglkclmplfnpaaGreat.T) (live:=[1,2,5]) (keep:=[32]) (b:=d13l0) (List.range m.length) (areAt t m) (fun k=>[(1, .sl .no 1 (es cInt m)),(2, .ptr s.length 32 0),(5,i64 (k:Nat))]) (fun _=>[(32, .cell (dV t))]::s)
   (.ret,[(4, .bool false)],[(32, .cell (dV t))]::s) (.exit 0,[(1, .sl .no 1 (es cInt m)),(2, .ptr s.length 32 0),(5,i64 m.length),(15, .bool false)],[(32, .cell (dV t))]::s) (by simp) (by simp) ?_ (by simp) [(1, .sl .no 1 (es cInt m)),(2, .ptr s.length 32 0),(5,i64 0)] ([(32, .cell (dV t))]::s) (by simp) (by simp)
  ·change Run T b13l0 _ _=_ at key
   cases ha:allB (areAt t m) (List.range m.length)<;>rw[ha]at key<;>simp only[Bool.false_eq_true,if_false,if_true]at key
   ·rw[den_fn t13 _ _ _ rfl]
    simp only[b13]
    simp (maxSteps:=1000000) (disch:=first|omega|assumption|decide +kernel|(simp;done)|(simp;omega)|fail) [key,hm,hm2]
   ·rw[den_fn t13 _ _ _ rfl]
    simp only[b13]
    simp (maxSteps:=1000000) (disch:=first|omega|assumption|decide +kernel|(simp;done)|(simp;omega)|fail) [key,hm,hm2]
  ·intro k hk
   simp only[List.length_range]at hk
   simp only[List.getElem_range]
   have hk2:k<t.groups.length:=by omega
   have hk3:(k:Int)<t.groups.length:=by omega
   have hw:=fun p lab s=>e_WaysOf t h p lab s
   have hg:m.getD k 0=m[k]:=by simp[List.getD,hk]
   have hwl: ∀p,(waysS t.chambers.toNat t.gates p).length<4611686018427387904:=fun p=>by
    have:=waysS_len (n:=t.chambers.toNat) (gs:=t.gates) (p:=p)
    have:=h.ch
    omega
   unfold areAt
   rw[List.getElem?_eq_getElem hk2,hg]
   generalize hG:t.groups[k]=G at*
   generalize hx:m[k]=x at*
   have hin:=fun lab s=>e_In (waysS t.chambers.toNat t.gates G.pos) x (hwl G.pos) lab s
   simp only
   by_cases hb:anyB (fun y=>decide (y=x)) (waysS t.chambers.toNat t.gates G.pos)=true
   rotate_left
   ·have hb:=Bool.eq_false_iff.2 hb
    simp (maxSteps:=1000000) (disch:=first|omega|assumption|decide +kernel|(simp;done)|(simp;omega)|fail) [run_drawnK,orSlow_none,hk,hk2,hk3,hG,hx,hw,hin,hb]
   ·simp (maxSteps:=1000000) (disch:=first|omega|assumption|decide +kernel|(simp;done)|(simp;omega)|fail) [run_drawnK,orSlow_none,hk,hk2,hk3,hG,hx,hw,hin,hb,wk k (by omega)]
 ·have hm2: ¬(m.length:Int)=t.groups.length:=by omega
  rw[den_fn t13 _ _ _ rfl]
  simp only[b13]
  simp (maxSteps:=1000000) (disch:=first|omega|assumption|decide +kernel|(simp;done)|(simp;omega)|fail) [hm,hm2]
end Go.Proofs.YtnglkclmplfnpaaGreat

/-
  TopDriven: words of the doors' texts whose own texts are not in this seat.
-/
namespace Go.Proofs.YtnglkclmplfnpaaGreat
open Go.Ab
def movesT(t:DTrap)(c:List Int):List (List Int):=movesS ((posL t).map (waysS t.chambers.toNat (flipG t.gates c)))
end Go.Proofs.YtnglkclmplfnpaaGreat

/-
  Doors, the law's helpers: isTurn, behind; the chapter's examples.
-/
namespace Go.Proofs.YtnglkclmplfnpaaGreat
open Go.Ab
theorem changed_ok {t:DTrap}(h:DoorOk t)(c:List Int):DoorOk (changedT t c) where
 ch:=h.ch
 tu:=h.tu
 ha:=h.ha
 gl:=by simpa [changedT]using h.gl
 ol:=h.ol
 gates:=fun g hg=>by
  obtain⟨i,hi,rfl⟩:=List.getElem_of_mem hg
  have hi2:i<t.gates.length:=by simpa [changedT]using hi
  have:=flipS_get c 0 t.gates i
  rw[List.getElem?_eq_getElem (by simpa [changedT]using hi),List.getElem?_eq_getElem hi2]at this
  simp only[Option.map_some,Option.some.injEq]at this
  have hg:=h.gates _ (List.getElem_mem hi2)
  have e:(changedT t c).gates[i]=(if ((0+i:Nat):Int)∈c then {t.gates[i]with op:= !t.gates[i].op}else t.gates[i]):=this
  have e2:(changedT t c).chambers=t.chambers:=rfl
  rw[e,e2]
  split<;>exact hg
 groups:=h.groups
theorem posL_moved {t:DTrap} {m:List Int}(hm:m.length=t.groups.length):posL (movedT t m)=m:=by
 apply List.ext_getElem?
 intro i
 simp only[posL,movedT,List.getElem?_map,movedG_get,Nat.zero_add]
 by_cases hi:i<m.length
 ·rw[List.getElem?_eq_getElem (show i<t.groups.length by omega)]
  simp[hi,List.getD]
 ·rw[List.getElem?_eq_none (show t.groups.length≤i by omega),List.getElem?_eq_none (show m.length≤i by omega)];rfl
theorem fishL_moved(t:DTrap)(m:List Int):fishL (movedT t m)=fishL t:=by
 apply List.ext_getElem?
 intro i
 simp only[fishL,movedT,List.getElem?_map,movedG_get,Nat.zero_add]
 cases t.groups[i]? with
 |none=>rfl
 |some g=>
   simp only[Option.map_some]
   split<;>rfl
theorem moved_ok {t:DTrap}(h:DoorOk t)(hT:0<t.turns) {m:List Int}(hm:m∈movesS ((posL t).map (waysS t.chambers.toNat t.gates))):DoorOk (movedT t m) where
 ch:=h.ch
 tu:=by have:=h.tu;simp only[movedT];omega
 ha:=h.ha
 gl:=h.gl
 ol:=by simpa [movedT]using h.ol
 gates:=h.gates
 groups:=fun g hg=>by
  obtain⟨i,hi,rfl⟩:=List.getElem_of_mem hg
  have hi2:i<t.groups.length:=by simpa [movedT]using hi
  obtain⟨h1,h2⟩:=mem_moves.1 hm
  have hl:m.length=t.groups.length:=by simpa [posL]using h1
  have:=movedG_get m 0 t.groups i
  rw[List.getElem?_eq_getElem (by simpa using hi2),List.getElem?_eq_getElem hi2]at this
  simp only[Option.map_some,Option.some.injEq,Nat.zero_add,show i<m.length by omega,if_true]at this
  have hgi:=h.groups _ (List.getElem_mem hi2)
  have hw:=h2 i m[i] t.groups[i].pos (List.getElem?_eq_getElem (by omega)) (by simp[posL,hi2])
  have hr:=waysS_range (by have:=h.ch;omega) hw
  have e:(movedT t m).groups[i]= {t.groups[i]with pos:=m.getD i 0}:=this
  have e2:(movedT t m).chambers=t.chambers:=rfl
  have e3:m.getD i 0=m[i]:=by simp[List.getD,show i<m.length by omega]
  rw[e,e2,e3]
  have:=h.ch
  exact⟨by simp only;omega,hgi.2⟩
theorem mem_movesT {t:DTrap} {c m:List Int}:m∈movesT t c↔areB (changedT t c) m=true:=by rw[areB_iff];rfl
def behindT(t:DTrap)(c m:List Int):DTrap:=movedT (changedT t c) m
theorem behind_ok {t:DTrap}(h:DoorOk t)(hT:0<t.turns) {c m:List Int}(hm:m∈movesT t c):DoorOk (behindT t c m):=moved_ok (changed_ok h c) hT hm
theorem movesT_len {t:DTrap} {c m:List Int}(hm:m∈movesT t c):m.length=t.groups.length:=by have:=(mem_moves.1 hm).1;simpa [posL]using this
def exT:DTrap:=⟨3,2,1,[⟨0,1,true⟩,⟨1,2,false⟩],[⟨0,10⟩,⟨1,7⟩]⟩
def exO:DTrap:=changedT exT [0]
theorem ex_ok:doorBDd exT=true:=by decide
set_option maxHeartbeats 2000000 in
theorem e_ExampleD(lab s):den T 27 [] lab s=some (.tup [.agg (dV exT), .agg (dV exO)],s):=by
 have hr: ∀y∈([0]:List Int),0≤y∧y<exT.gates.length:=by decide
 have h2:=fun lab s=>e_Changed exT (doorB_short ex_ok) [0] (by decide) hr (by decide) lab s
 change∀lab s,den T _ [.agg [i64 3,i64 2,i64 1, .sl .no 3 [[i64 0,i64 1, .bool true],[i64 1,i64 2, .bool false]], .sl .no 2 [[i64 0,i64 10],[i64 1,i64 7]]], .sl .no 1 [[i64 0]]] lab s=some (.agg [i64 3,i64 2,i64 1, .sl .no 3 [[i64 0,i64 1, .bool false],[i64 1,i64 2, .bool false]], .sl .no 2 [[i64 0,i64 10],[i64 1,i64 7]]],s)at h2
 change _=some (V.tup [.agg [i64 3,i64 2,i64 1, .sl .no 3 [[i64 0,i64 1, .bool true],[i64 1,i64 2, .bool false]], .sl .no 2 [[i64 0,i64 10],[i64 1,i64 7]]], .agg [i64 3,i64 2,i64 1, .sl .no 3 [[i64 0,i64 1, .bool false],[i64 1,i64 2, .bool false]], .sl .no 2 [[i64 0,i64 10],[i64 1,i64 7]]]],s)
 rw[den_fn t27 _ _ _ rfl]
 simp only[b27]
 simp (maxSteps:=1000000) (disch:=first|omega|assumption|decide +kernel|(simp;done)|(simp;omega)|fail) [run_drawnK,orSlow_none,h2]
end Go.Proofs.YtnglkclmplfnpaaGreat

/-
  DoorsWays: its equation.
-/
namespace Go.Proofs.YtnglkclmplfnpaaGreat
open Go.Ab
theorem same_l0(t:DTrap)(hg:t.gates.length≤40)(s:Stk):
 Run T b17l0 [(2, .ptr s.length 32 0),(3, .ptr s.length 48 0),(5,i64 0)] ([(32, .cell (dV t)),(48, .cell (dV t))]::s)=some (.exit 0,[(2, .ptr s.length 32 0),(3, .ptr s.length 48 0),(5,i64 t.gates.length),(48, .bool false)],[(32, .cell (dV t)),(48, .cell (dV t))]::s):=by
 have key:=loop_fold (T:=Go.Proofs.YtnglkclmplfnpaaGreat.T) (live:=[2,3,5]) (keep:=[32,48]) (b:=d17l0) (List.range t.gates.length) (fun _ (_:Unit)=>True) (fun a _=>a)
  (fun k _=>[(2, .ptr s.length 32 0),(3, .ptr s.length 48 0),(5,i64 (k:Nat))]) (fun _ _=>[(32, .cell (dV t)),(48, .cell (dV t))]::s)
  (fun _=>(.exit 0,[(2, .ptr s.length 32 0),(3, .ptr s.length 48 0),(5,i64 t.gates.length),(48, .bool false)],[(32, .cell (dV t)),(48, .cell (dV t))]::s))
  (by simp) ?_ (by simp) ?_ () trivial [(2, .ptr s.length 32 0),(3, .ptr s.length 48 0),(5,i64 0)] ([(32, .cell (dV t)),(48, .cell (dV t))]::s) (by simp) (by simp)
 ·exact key
 ·intro k _ hk _
  simp only[List.length_range]at hk
  have hk2:(k:Int)<t.gates.length:=by omega
  generalize hG:t.gates[k]=G at*
  simp (maxSteps:=1000000) (disch:=first|omega|assumption|decide +kernel|(simp;done)|(simp;omega)|fail) [run_drawnK,orSlow_none,hk,hk2,hG,wk k (by omega)]
 ·intro _ _
  simp
theorem same_l1(t:DTrap)(hg:t.groups.length≤40)(s:Stk):
 Run T b17l1 [(2, .ptr s.length 32 0),(3, .ptr s.length 48 0),(6,i64 0)] ([(32, .cell (dV t)),(48, .cell (dV t))]::s)=some (.exit 2,[(2, .ptr s.length 32 0),(3, .ptr s.length 48 0),(6,i64 t.groups.length),(66, .bool false)],[(32, .cell (dV t)),(48, .cell (dV t))]::s):=by
 have key:=loop_fold (T:=Go.Proofs.YtnglkclmplfnpaaGreat.T) (live:=[2,3,6]) (keep:=[32,48]) (b:=d17l1) (List.range t.groups.length) (fun _ (_:Unit)=>True) (fun a _=>a)
  (fun k _=>[(2, .ptr s.length 32 0),(3, .ptr s.length 48 0),(6,i64 (k:Nat))]) (fun _ _=>[(32, .cell (dV t)),(48, .cell (dV t))]::s)
  (fun _=>(.exit 2,[(2, .ptr s.length 32 0),(3, .ptr s.length 48 0),(6,i64 t.groups.length),(66, .bool false)],[(32, .cell (dV t)),(48, .cell (dV t))]::s))
  (by simp) ?_ (by simp) ?_ () trivial [(2, .ptr s.length 32 0),(3, .ptr s.length 48 0),(6,i64 0)] ([(32, .cell (dV t)),(48, .cell (dV t))]::s) (by simp) (by simp)
 ·exact key
 ·intro k _ hk _
  simp only[List.length_range]at hk
  have hk2:(k:Int)<t.groups.length:=by omega
  generalize hG:t.groups[k]=G at*
  simp (maxSteps:=1000000) (disch:=first|omega|assumption|decide +kernel|(simp;done)|(simp;omega)|fail) [run_drawnK,orSlow_none,hk,hk2,hG,wk k (by omega)]
 ·intro _ _
  simp
set_option maxHeartbeats 2000000 in
theorem e_SameD(t:DTrap)(hg:t.gates.length≤40)(hr:t.groups.length≤40)(lab s):den T 17 [.agg (dV t), .agg (dV t)] lab s=some (.bool true,s):=by
 have h0:=same_l0 t hg s
 have h1:=same_l1 t hr s
 rw[den_fn t17 _ _ _ rfl]
 simp only[b17]
 simp (maxSteps:=1000000) (disch:=first|omega|assumption|decide +kernel|(simp;done)|(simp;omega)|fail) [h0,h1]
end Go.Proofs.YtnglkclmplfnpaaGreat

/-
  Doors: long lists; copies of lists.
-/
namespace Go.Proofs.YtnglkclmplfnpaaGreat
open Go.Ab
end Go.Proofs.YtnglkclmplfnpaaGreat

/-
  Doors, the reference: Play.
-/
namespace Go.Proofs.YtnglkclmplfnpaaGreat
open Go.Ab
def playStep(C M:List (List Int))(t:DTrap)(i:Nat):DTrap×Bool:=
 if isChangeB t.hands t.gates.length (C.getD i [])=true∧areB (changedT t (C.getD i [])) (M.getD i [])=true then(behindT t (C.getD i []) (M.getD i []),true)else(t,false)
def playF(t:DTrap)(C M:List (List Int)):DTrap×Bool:=foldB (playStep C M) (List.range C.length) t
def zeroD:DTrap:=⟨0,0,0,[],[]⟩
def playR(t:DTrap)(C M:List (List Int)):DTrap×Int:=if doorBDd t=true then(if C.length=M.length then(if (C.length:Int)≤t.turns then(if (playF t C M).2=true then((playF t C M).1,0)else(zeroD,1))else(zeroD,3))else(zeroD,1))else(zeroD,30)
theorem dV_zero:dV zeroD=[i64 0,i64 0,i64 0, .sl .no 3 [], .sl .no 2 []]:=rfl
end Go.Proofs.YtnglkclmplfnpaaGreat

/-
  Doors: Play: the moves of a turn.
-/
namespace Go.Proofs.YtnglkclmplfnpaaGreat
open Go.Ab
abbrev playFr(t:DTrap)(d:Nat)(T1:Int)(o:Nat)(n:List Int):Ab.Loc:=[(48, .cell (dV t)),(96, .cell zeroT),(416, .cell (gameV t (chB t) (.mp (.ptr d 1416 0)))),(1416, .mp (some 5) []),(144, .cell (sceneL T1 (o:Nat) n))]
def goStep(t:DTrap)(o:Nat)(m:List Int)(n:List Int)(j:Nat):List Int×Bool:=
 if anyB (fun x=>decide (x=m.getD j 0)) (waysS t.chambers.toNat (openG o t.gates) (n.getD j 0))=true then(n.set j (m.getD j 0),true)else(n,false)
@[simp] theorem mapAll_i64(r:Ren): ∀n:List Int,V.mapAll r (n.map i64)=n.map i64
 |[]=>rfl
 |x::l=>by simp[V.mapAll,mapAll_i64 r l]
abbrev PlayH(d:Nat):= {F:Ab.Loc//F.get 96=some (.cell zeroT)}
instance (d:Nat):Inhabited (PlayH d):=⟨⟨[(96, .cell zeroT)],rfl⟩⟩
set_option maxHeartbeats 8000000 in
theorem play_l1(t:DTrap)(h:DoorOk t)(C M:List (List Int))(T1:Int)(o:Nat)(ho:o<32)(i:Nat)(m n:List Int)(hm:m.length=t.groups.length)(hn:n.length=3)(s:Stk):
 ∃g:PlayH 0,Run T b14l1 [(1, .sl .no 1 (es cInts C)),(2, .sl .no 1 (es cInts M)),(3, .ptr s.length 48 0),(6, .ptr s.length 96 0),(8, .ptr s.length 416 0),(9, .ptr s.length 144 0),(40, .sl .no 1 (es cInts C)),(41,i64 C.length),(42,i64 (i:Nat)),(75, .sl .no 1 (es cInt m)),(76,i64 m.length),(77,i64 0)] (playFr t s.length T1 o n::s)=
  if (foldB (goStep t o m) (List.range m.length) n).2=true then some (.exit 2,[(1, .sl .no 1 (es cInts C)),(2, .sl .no 1 (es cInts M)),(3, .ptr s.length 48 0),(6, .ptr s.length 96 0),(8, .ptr s.length 416 0),(9, .ptr s.length 144 0),(40, .sl .no 1 (es cInts C)),(41,i64 C.length),(42,i64 (i:Nat)),(75, .sl .no 1 (es cInt m)),(76,i64 m.length),(77,i64 m.length),(78, .bool false)],playFr t s.length T1 o (foldB (goStep t o m) (List.range m.length) n).1::s)
  else some (.ret,[(6, .ptr s.length 96 0),(7,i64 1)],g.1::s):=by
 have hol:=h.ol
 refine loop_list_e (T:=Go.Proofs.YtnglkclmplfnpaaGreat.T) (γ:=PlayH 0) (live:=[1,2,3,6,8,9,40,41,42,75,76,77]) (keep:=[48,96,144,416,1416]) (b:=d14l1) (List.range m.length) (fun _ (n:List Int)=>n.length=3)
  (fun k _=>[(1, .sl .no 1 (es cInts C)),(2, .sl .no 1 (es cInts M)),(3, .ptr s.length 48 0),(6, .ptr s.length 96 0),(8, .ptr s.length 416 0),(9, .ptr s.length 144 0),(40, .sl .no 1 (es cInts C)),(41,i64 C.length),(42,i64 (i:Nat)),(75, .sl .no 1 (es cInt m)),(76,i64 m.length),(77,i64 (k:Nat))]) (fun _ n=>playFr t s.length T1 o n::s)
  (goStep t o m) (fun g _=>(.ret,[(6, .ptr s.length 96 0),(7,i64 1)],g.1::s))
  (fun n=>(.exit 2,[(1, .sl .no 1 (es cInts C)),(2, .sl .no 1 (es cInts M)),(3, .ptr s.length 48 0),(6, .ptr s.length 96 0),(8, .ptr s.length 416 0),(9, .ptr s.length 144 0),(40, .sl .no 1 (es cInts C)),(41,i64 C.length),(42,i64 (i:Nat)),(75, .sl .no 1 (es cInt m)),(76,i64 m.length),(77,i64 m.length),(78, .bool false)],playFr t s.length T1 o n::s))
  (by simp) (by simp) ?_ ?_ n hn _ _ (by simp) (by simp)
 ·intro k n hk hn
  simp only[List.length_range]at hk
  simp only[List.getElem_range]
  obtain⟨x0,x1,x2,rfl⟩: ∃x0 x1 x2,n=[x0,x1,x2]:=by
   match n,hn with
   |[x0,x1,x2],_=>exact⟨x0,x1,x2,rfl⟩
  have hk2:(k:Int)<m.length:=by omega
  have hk3: ∀j:Int,j=(k:Int)→j<(m.length:Int):=fun j e=>by omega
  have hg:m.getD k 0=m[k]:=by simp[List.getD,hk]
  have hwl: ∀p,(waysS t.chambers.toNat (openG o t.gates) p).length<4611686018427387904:=fun p=>by
   have:=waysS_len (n:=t.chambers.toNat) (gs:=openG o t.gates) (p:=p)
   have:=h.ch
   omega
  have hwy:=fun p lab=>e_ways t h.gl h.gates (chB t) (.mp (.ptr s.length 1416 0)) o ho p s.length 416 (playFr t s.length T1 o [x0,x1,x2]::s) (by simp) (by simp) lab
  have hct:=fun p lab s=>e_Contains (waysS t.chambers.toNat (openG o t.gates) p) m[k] s (hwl p) lab
  unfold goStep
  rw[hg]
  simp only[playFr,sceneL,List.map_cons,List.map_nil]at hwy⊢
  generalize hx:m[k]=x at*
  have w1:IntKind.i64.wrap 1=1:=by decide +kernel
  have w2:IntKind.i64.wrap 2=2:=by decide +kernel
  have w3:IntKind.i64.wrap 3=3:=by decide +kernel
  obtain rfl|rfl|rfl:k=0∨k=1∨k=2:=by omega
  ·have hk4:=hk3 0 rfl
   simp only[List.getD_cons_zero,List.set_cons_zero]
   by_cases hb:anyB (fun y=>decide (y=x)) (waysS t.chambers.toNat (openG o t.gates) x0)=true
   ·rw[if_pos hb]
    refine⟨fun _=>⟨?_,rfl⟩,fun hf=>absurd hf (by simp)⟩
    simp (maxSteps:=1000000) (disch:=first|omega|assumption|decide +kernel|(simp;done)|(simp;omega)|fail) [run_drawnK,orSlow_none,hk,hk2,hk4,hx,zeroT,w1,w2,w3,hwy,hct,hb]
   ·have hb2:=Bool.eq_false_iff.2 hb
    rw[if_neg hb]
    refine⟨fun hf=>absurd hf (by simp),fun _=>⟨⟨playFr t s.length T1 o [x0,x1,x2],rfl⟩,?_⟩⟩
    simp (maxSteps:=1000000) (disch:=first|omega|assumption|decide +kernel|(simp;done)|(simp;omega)|fail) [run_drawnK,orSlow_none,hk,hk2,hk4,hx,zeroT,w1,w2,w3,hwy,hct,hb2]
  ·have hk4:=hk3 1 rfl
   simp only[List.getD_cons_zero,List.getD_cons_succ,List.set_cons_zero,List.set_cons_succ]
   by_cases hb:anyB (fun y=>decide (y=x)) (waysS t.chambers.toNat (openG o t.gates) x1)=true
   ·rw[if_pos hb]
    refine⟨fun _=>⟨?_,rfl⟩,fun hf=>absurd hf (by simp)⟩
    simp (maxSteps:=1000000) (disch:=first|omega|assumption|decide +kernel|(simp;done)|(simp;omega)|fail) [run_drawnK,orSlow_none,hk,hk2,hk4,hx,zeroT,w1,w2,w3,hwy,hct,hb]
   ·have hb2:=Bool.eq_false_iff.2 hb
    rw[if_neg hb]
    refine⟨fun hf=>absurd hf (by simp),fun _=>⟨⟨playFr t s.length T1 o [x0,x1,x2],rfl⟩,?_⟩⟩
    simp (maxSteps:=1000000) (disch:=first|omega|assumption|decide +kernel|(simp;done)|(simp;omega)|fail) [run_drawnK,orSlow_none,hk,hk2,hk4,hx,zeroT,w1,w2,w3,hwy,hct,hb2]
  ·have hk4:=hk3 2 rfl
   simp only[List.getD_cons_zero,List.getD_cons_succ,List.set_cons_zero,List.set_cons_succ]
   by_cases hb:anyB (fun y=>decide (y=x)) (waysS t.chambers.toNat (openG o t.gates) x2)=true
   ·rw[if_pos hb]
    refine⟨fun _=>⟨?_,rfl⟩,fun hf=>absurd hf (by simp)⟩
    simp (maxSteps:=1000000) (disch:=first|omega|assumption|decide +kernel|(simp;done)|(simp;omega)|fail) [run_drawnK,orSlow_none,hk,hk2,hk4,hx,zeroT,w1,w2,w3,hwy,hct,hb]
   ·have hb2:=Bool.eq_false_iff.2 hb
    rw[if_neg hb]
    refine⟨fun hf=>absurd hf (by simp),fun _=>⟨⟨playFr t s.length T1 o [x0,x1,x2],rfl⟩,?_⟩⟩
    simp (maxSteps:=1000000) (disch:=first|omega|assumption|decide +kernel|(simp;done)|(simp;omega)|fail) [run_drawnK,orSlow_none,hk,hk2,hk4,hx,zeroT,w1,w2,w3,hwy,hct,hb2]
 ·intro n hn
  simp
end Go.Proofs.YtnglkclmplfnpaaGreat

/-
  Doors: Play: what the moves of a turn come to.
-/
namespace Go.Proofs.YtnglkclmplfnpaaGreat
open Go.Ab
theorem go_get(m n:List Int)(s:Nat)(hn:s<n.length)(hm:s≤m.length):(m.take s ++n.drop s).getD s 0=n.getD s 0:=by
 have e:(m.take s).length=s:=by simp[List.length_take];omega
 simp only[List.getD_eq_getElem?_getD]
 rw[List.getElem?_append_right (by omega),e]
 simp
theorem go_set(m n:List Int)(s:Nat)(hn:s<n.length)(hm:s<m.length):(m.take s ++n.drop s).set s (m.getD s 0)=m.take (s+1) ++n.drop (s+1):=by
 have e:(m.take s).length=s:=by simp[List.length_take];omega
 rw[List.set_append_right _ _ (by omega),e,Nat.sub_self,List.drop_eq_getElem_cons hn,List.set_cons_zero,List.take_succ_eq_append_getElem hm]
 have e3:m.getD s 0=m[s]:=by simp[List.getD,hm]
 rw[e3]
 simp only[List.append_assoc,List.singleton_append]
theorem go_fold(t:DTrap)(o:Nat)(m n:List Int): ∀(k s:Nat),s+k≤n.length→s+k≤m.length→
 ((foldB (goStep t o m) (List.range' s k) (m.take s ++n.drop s)).2=true↔ ∀i,s≤i→i<s+k→m.getD i 0∈waysS t.chambers.toNat (openG o t.gates) (n.getD i 0))∧
 ((foldB (goStep t o m) (List.range' s k) (m.take s ++n.drop s)).2=true→(foldB (goStep t o m) (List.range' s k) (m.take s ++n.drop s)).1=m.take (s+k) ++n.drop (s+k))
 |0,s,_,_=>by
   simp only[List.range'_zero,foldB,Nat.add_zero,true_iff,forall_const]
   exact⟨fun i h1 h2=>absurd h2 (by omega),trivial⟩
 |k+1,s,h1,h2=>by
   obtain⟨i1,i2⟩:=go_fold t o m n k (s+1) (by omega) (by omega)
   simp only[List.range'_succ,foldB]
   have e:goStep t o m (m.take s ++n.drop s) s=if anyB (fun x=>decide (x=m.getD s 0)) (waysS t.chambers.toNat (openG o t.gates) (n.getD s 0))=true then(m.take (s+1) ++n.drop (s+1),true)else(m.take s ++n.drop s,false):=by
    unfold goStep
    rw[go_get m n s (by omega) (by omega),go_set m n s (by omega) (by omega)]
   have ea:anyB (fun x=>decide (x=m.getD s 0)) (waysS t.chambers.toNat (openG o t.gates) (n.getD s 0))=true↔m.getD s 0∈waysS t.chambers.toNat (openG o t.gates) (n.getD s 0):=by
    simp[anyB]
   rw[e]
   by_cases hb:m.getD s 0∈waysS t.chambers.toNat (openG o t.gates) (n.getD s 0)
   ·rw[if_pos (ea.2 hb)]
    simp only[if_true]
    rw[i1]
    refine⟨⟨fun h i a b=> ?_,fun h i a b=>h i (by omega) (by omega)⟩,fun h=> ?_⟩
    ·by_cases e:i=s
     ·rw[e];exact hb
     ·exact h i (by omega) (by omega)
    ·rw[i2 (i1.2 h),show s+1+k=s+(k+1)by omega]
   ·rw[if_neg (fun h=>hb (ea.1 h))]
    simp only[Bool.false_eq_true,if_false,false_iff,false_implies,and_true]
    exact fun h=>hb (h s (by omega) (by omega))
theorem go_are {t p:DTrap} {o:Nat} {m n:List Int}(hg:p.gates=openG o t.gates)(hc:p.chambers=t.chambers)(hp:posL p=n.take p.groups.length)(hn:n.length=3)(hl:p.groups.length≤3)(hm:m.length=p.groups.length):
 ((foldB (goStep t o m) (List.range m.length) n).2=true↔areB p m=true)∧(areB p m=true→(foldB (goStep t o m) (List.range m.length) n).1=m ++n.drop m.length):=by
 obtain⟨h1,h2⟩:=go_fold t o m n m.length 0 (by omega) (by omega)
 rw[List.range_eq_range']
 simp only[List.take_zero,List.nil_append,List.drop_zero,Nat.zero_add,List.take_length,Nat.zero_le,true_implies]at h1 h2
 have key:(foldB (goStep t o m) (List.range' 0 m.length) n).2=true↔areB p m=true:=by
  rw[h1,areB_iff,mem_moves]
  constructor
  ·intro h
   refine⟨by simp[hp];omega,fun i x q hx hq=> ?_⟩
   have hi:i<m.length:=(List.getElem?_eq_some_iff.1 hx).1
   have:=h i hi
   rw[hp,List.getElem?_take,if_pos (by omega)]at hq
   have ex:m.getD i 0=x:=by simp[List.getD,hx]
   have eq:n.getD i 0=q:=by simp[List.getD,hq]
   rw[ex,eq,←hg,←hc]at this
   exact this
  ·rintro⟨_,h⟩ i hi
   have hi2:i<n.length:=by omega
   have:=h i m[i] n[i] (List.getElem?_eq_getElem hi) (by rw[hp,List.getElem?_take,if_pos (by omega)];exact List.getElem?_eq_getElem hi2)
   rw[←hg,←hc]
   have ex:m.getD i 0=m[i]:=by simp[List.getD,hi]
   have eq:n.getD i 0=n[i]:=by simp[List.getD,hi2]
   rw[ex,eq]
   exact this
 exact⟨key,fun h=>h2 (key.2 h)⟩
end Go.Proofs.YtnglkclmplfnpaaGreat

/-
  Doors: Play: the turns.
-/
namespace Go.Proofs.YtnglkclmplfnpaaGreat
open Go.Ab
structure PlayI(t p:DTrap)(i:Nat)(a:Nat×List Int):Prop where
 ok:DoorOk p
 gates:p.gates=openG a.1 t.gates
 ch:p.chambers=t.chambers
 ha:p.hands=t.hands
 tu:p.turns=t.turns-(i:Nat)
 at':posL p=a.2.take p.groups.length
 n:a.2.length=3
 gl:p.groups.length=t.groups.length
 fish:fishL p=fishL t
 o:a.1<32
 gg:p.gates.length=t.gates.length
def plStep(t:DTrap)(C M:List (List Int))(a:Nat×List Int)(i:Nat):(Nat×List Int)×Bool:=
 if (bitsR t (C.getD i [])).2=true∧(M.getD i []).length=t.groups.length then
  ((xorN a.1 (maskL (C.getD i [])),(foldB (goStep t (xorN a.1 (maskL (C.getD i []))) (M.getD i [])) (List.range (M.getD i []).length) a.2).1),(foldB (goStep t (xorN a.1 (maskL (C.getD i []))) (M.getD i [])) (List.range (M.getD i []).length) a.2).2)
 else(a,false)
theorem plStep_ok {t p:DTrap} {C M:List (List Int)} {i:Nat} {a:Nat×List Int}(h:PlayI t p i a)(hT:0<p.turns):
 (plStep t C M a i).2=(playStep C M p i).2∧((playStep C M p i).2=true→PlayI t (playStep C M p i).1 (i+1) (plStep t C M a i).1):=by
 have ho:=h.ok
 have h3:=ho.ol
 unfold plStep playStep
 generalize C.getD i []=c
 generalize M.getD i []=m
 rw[bits_is,←h.ha,←h.gg,←h.gl]
 by_cases hc:isChangeB p.hands p.gates.length c=true
 rotate_left
 ·rw[if_neg (fun e=>hc e.1),if_neg (fun e=>hc e.1)]
  exact⟨rfl,fun e=>absurd e (by simp)⟩
 obtain⟨hcm,hc5,hmk⟩:=change_all ho hc
 have hfl:flipG p.gates c=openG (xorN a.1 (maskL c)) t.gates:=by
  rw[h.gates,open_flip (by rw[←h.gg];exact ho.gl) a.1 hc5]
 by_cases hm:m.length=p.groups.length
 rotate_left
 ·rw[if_neg (fun e=>hm e.2),if_neg (fun e=>hm (movesT_len (mem_movesT.2 e.2)))]
  exact⟨rfl,fun e=>absurd e (by simp)⟩
 have hx:xorN a.1 (maskL c)<32:=Nat.xor_lt_two_pow (n:=5) h.o hmk
 obtain⟨g1,g2⟩:=go_are (t:=t) (p:=changedT p c) (o:=xorN a.1 (maskL c)) (m:=m) (n:=a.2) hfl h.ch h.at' h.n h3 hm
 rw[if_pos ⟨hc,hm⟩]
 cases ha:areB (changedT p c) m
 ·rw[if_neg (fun e=>by simp at e)]
  refine⟨?_,fun e=>absurd e (by simp)⟩
  simp only
  rw[Bool.eq_false_iff]
  intro e
  rw[g1,ha]at e;cases e
 ·rw[if_pos ⟨hc,rfl⟩]
  refine⟨?_,fun _=> ?_⟩
  ·simp only;rw[g1,ha]
  ·have hb:=behind_ok ho hT (mem_movesT.2 ha)
   refine⟨hb,hfl,h.ch,h.ha,?_,?_,?_,?_,?_,hx,?_⟩
   ·have:=h.tu;simp only[behindT,movedT,changedT];omega
   ·rw[g2 ha]
    have e1:posL (behindT p c m)=m:=posL_moved (t:=changedT p c) hm
    have e2:(behindT p c m).groups.length=m.length:=by simp[behindT,movedT,changedT,hm]
    rw[e1,e2];simp
   ·have hn:=h.n
    rw[g2 ha];simp only[List.length_append,List.length_drop];omega
   ·simp only[behindT,movedT,changedT];simpa using h.gl
   ·rw[behindT,fishL_moved];exact h.fish
   ·have:=h.gg;simpa [behindT,movedT,changedT]using this
end Go.Proofs.YtnglkclmplfnpaaGreat

/-
  Doors: Play: the turns, as the program walks them.
-/
namespace Go.Proofs.YtnglkclmplfnpaaGreat
open Go.Ab
set_option maxHeartbeats 8000000 in
theorem play_l0(t:DTrap)(h:DoorOk t)(C M:List (List Int))(hlm:C.length=M.length)(hT:(C.length:Int)≤t.turns)(hc: ∀x∈C,x.length≤40)(hm: ∀x∈M,x.length≤40)(T1:Int)(a0:Nat×List Int)(h0:PlayI t t 0 a0)(s:Stk):
 ∃g:PlayH 0,Run T b14l0 [(1, .sl .no 1 (es cInts C)),(2, .sl .no 1 (es cInts M)),(3, .ptr s.length 48 0),(6, .ptr s.length 96 0),(8, .ptr s.length 416 0),(9, .ptr s.length 144 0),(40, .sl .no 1 (es cInts C)),(41,i64 C.length),(42,i64 0)] (playFr t s.length T1 a0.1 a0.2::s)=
  if (foldB (plStep t C M) (List.range C.length) a0).2=true then some (.exit 0,[(1, .sl .no 1 (es cInts C)),(2, .sl .no 1 (es cInts M)),(3, .ptr s.length 48 0),(6, .ptr s.length 96 0),(8, .ptr s.length 416 0),(9, .ptr s.length 144 0),(40, .sl .no 1 (es cInts C)),(41,i64 C.length),(42,i64 C.length),(43, .bool false)],playFr t s.length T1 (foldB (plStep t C M) (List.range C.length) a0).1.1 (foldB (plStep t C M) (List.range C.length) a0).1.2::s)
  else some (.ret,[(6, .ptr s.length 96 0),(7,i64 1)],g.1::s):=by
 have htu:=h.tu
 have hol:=h.ol
 refine loop_list_e (T:=Go.Proofs.YtnglkclmplfnpaaGreat.T) (γ:=PlayH 0) (live:=[1,2,3,6,8,9,40,41,42]) (keep:=[48,96,144,416,1416]) (b:=d14l0) (List.range C.length) (fun k (a:Nat×List Int)=> ∃p,PlayI t p k a)
  (fun k _=>[(1, .sl .no 1 (es cInts C)),(2, .sl .no 1 (es cInts M)),(3, .ptr s.length 48 0),(6, .ptr s.length 96 0),(8, .ptr s.length 416 0),(9, .ptr s.length 144 0),(40, .sl .no 1 (es cInts C)),(41,i64 C.length),(42,i64 (k:Nat))]) (fun _ a=>playFr t s.length T1 a.1 a.2::s)
  (plStep t C M) (fun g _=>(.ret,[(6, .ptr s.length 96 0),(7,i64 1)],g.1::s))
  (fun a=>(.exit 0,[(1, .sl .no 1 (es cInts C)),(2, .sl .no 1 (es cInts M)),(3, .ptr s.length 48 0),(6, .ptr s.length 96 0),(8, .ptr s.length 416 0),(9, .ptr s.length 144 0),(40, .sl .no 1 (es cInts C)),(41,i64 C.length),(42,i64 C.length),(43, .bool false)],playFr t s.length T1 a.1 a.2::s))
  (by simp) (by simp) ?_ ?_ a0 ⟨t,h0⟩ _ _ (by simp) (by simp)
 ·rintro k ⟨o,n⟩ hk ⟨p,hp⟩
  simp only[List.length_range]at hk
  simp only[List.getElem_range]
  have hkM:k<M.length:=by omega
  have hkM2:(k:Int)<M.length:=by omega
  have hk2:(k:Int)<C.length:=by omega
  have hptu:=hp.tu
  have hT0:0<p.turns:=by omega
  have hon:=hp.o
  have hnn:=hp.n
  simp only at hon hnn
  have hcl:=hc _ (List.getElem_mem hk)
  have hml:=hm _ (List.getElem_mem hkM)
  have e1:C.getD k []=C[k]:=by simp[List.getD,hk]
  have e2:M.getD k []=M[k]:=by simp[List.getD,hkM]
  obtain⟨q1,q2⟩:=plStep_ok (C:=C) (M:=M) hp hT0
  have q3:(plStep t C M (o,n) k).2=true→ ∃p',PlayI t p' (k+1) (plStep t C M (o,n) k).1:=fun e=>⟨_,q2 (by rw[←q1];exact e)⟩
  clear q1 q2
  have hbi:=fun lab=>e_bitsOf t h.gl (chB t) (.mp (.ptr s.length 1416 0)) C[k] (by omega) s.length 416 (playFr t s.length T1 o n::s) (by simp) (by simp) lab
  have hst:plStep t C M (o,n) k=if (bitsR t C[k]).2=true∧M[k].length=t.groups.length then((xorN o (maskL C[k]),(foldB (goStep t (xorN o (maskL C[k])) M[k]) (List.range M[k].length) n).1),(foldB (goStep t (xorN o (maskL C[k])) M[k]) (List.range M[k].length) n).2)else((o,n),false):=by unfold plStep;rw[e1,e2]
  have hmk:(bitsR t C[k]).2=true→maskL C[k]<32:=fun e=>(change_all h (by rw[←bits_is];exact e)).2.2
  have hbm:(bitsR t C[k]).2=true→(bitsR t C[k]).1=(maskL C[k]:Nat):=fun e=>bits_mk (by rw[←bits_is];exact e)
  have hin:=fun(e:(bitsR t C[k]).2=true) (el:M[k].length=t.groups.length)=>play_l1 t h C M T1 (xorN o (maskL C[k])) (Nat.xor_lt_two_pow (n:=5) hon (hmk e)) k M[k] n el hnn s
  rw[hst]at q3⊢
  clear hst e1 e2
  generalize hx:C[k]=x at*
  generalize hy:M[k]=y at*
  generalize maskL x=mk at*
  obtain⟨bq,hbq⟩: ∃bq,bitsR t x=bq:=⟨_,rfl⟩
  obtain⟨b1,b2⟩:=bq
  rw[hbq]at hbi q3 hmk hbm hin⊢
  simp only at hbi q3 hmk hbm hin⊢
  cases b2
  ·simp only[Bool.false_eq_true,false_and,if_false]
   refine⟨fun hb=>absurd hb (by simp),fun _=>⟨⟨playFr t s.length T1 o n,rfl⟩,?_⟩⟩
   simp (maxSteps:=1000000) (disch:=first|omega|assumption|decide +kernel|(simp;done)|(simp;omega)|fail) [run_drawnK,orSlow_none,hk,hk2,hkM,hkM2,hx,hy,hbi,zeroT]
  ·by_cases hyl:y.length=t.groups.length
   rotate_left
   ·have hyl': ¬(y.length:Int)=t.groups.length:=by omega
    simp only[hyl,and_false,if_false]
    refine⟨fun hb=>absurd hb (by simp),fun _=>⟨⟨playFr t s.length T1 o n,rfl⟩,?_⟩⟩
    simp (maxSteps:=1000000) (disch:=first|omega|assumption|decide +kernel|(simp;done)|(simp;omega)|fail) [run_drawnK,orSlow_none,hk,hk2,hkM,hkM2,hx,hy,hbi,hyl',zeroT]
   ·obtain⟨⟨g,hg⟩,hl1⟩:=hin rfl hyl
    have hm5:=hmk rfl
    have hb1:=hbm rfl
    subst hb1
    have hxr:=bxor (a:=o) (b:=mk) (by omega) (by omega)
    have hyl':(y.length:Int)=t.groups.length:=by omega
    rw[if_pos ⟨rfl,hyl⟩]at q3⊢
    simp only at q3 hl1⊢
    generalize xorN o mk=o2 at*
    generalize foldB (goStep t o2 y) (List.range y.length) n=r at*
    obtain⟨n2,b⟩:=r
    simp only at q3 hl1⊢
    cases b
    ·refine⟨fun hb=>absurd hb (by simp),fun _=>⟨⟨g,hg⟩,?_⟩⟩
     simp only[Bool.false_eq_true,if_false]at hl1
     rw[hyl']at hl1
     simp (maxSteps:=1000000) (disch:=first|omega|assumption|decide +kernel|(simp;done)|(simp;omega)|fail) [run_drawnK,orSlow_none,hk,hk2,hkM,hkM2,hx,hy,hbi,hyl',hxr,-bin_xor,hl1,hg]
    ·simp only[if_true]at hl1
     rw[hyl']at hl1
     refine⟨fun _=>⟨?_,q3 rfl⟩,fun hb=>absurd hb (by simp)⟩
     simp (maxSteps:=1000000) (disch:=first|omega|assumption|decide +kernel|(simp;done)|(simp;omega)|fail) [run_drawnK,orSlow_none,hk,hk2,hkM,hkM2,hx,hy,hbi,hyl',hxr,-bin_xor,hl1,wk k (by omega)]
 ·intro a ha
  simp
end Go.Proofs.YtnglkclmplfnpaaGreat

/-
  Doors: Play: the program's turns are the reference's.
-/
namespace Go.Proofs.YtnglkclmplfnpaaGreat
open Go.Ab
theorem play_rel {t:DTrap} {C M:List (List Int)}: ∀(k s:Nat) (p:DTrap) (a:Nat×List Int),PlayI t p s a→((s+k:Nat):Int)≤t.turns→
 (foldB (plStep t C M) (List.range' s k) a).2=(foldB (playStep C M) (List.range' s k) p).2∧((foldB (playStep C M) (List.range' s k) p).2=true→PlayI t (foldB (playStep C M) (List.range' s k) p).1 (s+k) (foldB (plStep t C M) (List.range' s k) a).1)
 |0,s,p,a,h,_=>by
   simp only[List.range'_zero,foldB,Nat.add_zero,true_and]
   exact fun _=>h
 |k+1,s,p,a,h,ht=>by
   have hp:=h.tu
   obtain⟨q1,q2⟩:=plStep_ok (C:=C) (M:=M) h (by omega)
   simp only[List.range'_succ,foldB]
   rw[q1]
   by_cases hb:(playStep C M p s).2=true
   ·rw[if_pos hb,if_pos hb]
    have ih:=play_rel (C:=C) (M:=M) k (s+1) _ _ (q2 hb) (by omega)
    rw[show s+1+k=s+(k+1)by omega]at ih
    exact ih
   ·rw[if_neg hb,if_neg hb]
    exact⟨q1,fun e=>absurd e hb⟩
theorem playF_rel {t:DTrap} {C M:List (List Int)} {a:Nat×List Int}(h:PlayI t t 0 a)(ht:(C.length:Int)≤t.turns):
 (foldB (plStep t C M) (List.range C.length) a).2=(playF t C M).2∧((playF t C M).2=true→PlayI t (playF t C M).1 C.length (foldB (plStep t C M) (List.range C.length) a).1):=by
 have:=play_rel (C:=C) (M:=M) C.length 0 t a h (by omega)
 rw[Nat.zero_add]at this
 unfold playF
 rw[List.range_eq_range']
 exact this
theorem playI_0 {t:DTrap}(h:DoorOk t):PlayI t t 0 (gN t,nAt t):=⟨h,(openG_bits t.gates).symm,rfl,rfl,by simp,(nAt_take h).symm,rfl,rfl,rfl,gN_lt h,rfl⟩
def playOut(t:DTrap)(i:Nat)(a:Nat×List Int):DTrap:=⟨t.chambers,t.turns-(i:Nat),t.hands,openG a.1 t.gates,movedG a.2 0 t.groups⟩
theorem playOut_eq {t p:DTrap} {i:Nat} {a:Nat×List Int}(h:PlayI t p i a):playOut t i a=p:=by
 have hl:=h.gl
 have hol:=h.ok.ol
 have hn:=h.n
 have hg:movedG a.2 0 t.groups=p.groups:=by
  apply List.ext_getElem?
  intro j
  rw[movedG_get,Nat.zero_add]
  by_cases hj:j<t.groups.length
  ·have hj2:j<p.groups.length:=by omega
   have e1:(posL p)[j]? =(a.2.take p.groups.length)[j]? :=by rw[h.at']
   have e2:(fishL p)[j]? =(fishL t)[j]? :=by rw[h.fish]
   simp only[posL,fishL,List.getElem?_map,List.getElem?_take,if_pos hj2,List.getElem?_eq_getElem hj,List.getElem?_eq_getElem hj2,Option.map_some,Option.some.injEq,List.getElem?_eq_getElem (show j<a.2.length by omega)]at e1 e2⊢
   have e3:a.2.getD j 0=a.2[j]:=by simp[List.getD,show j<a.2.length by omega]
   rw[if_pos (by omega),e3,←e1,←e2]
  ·rw[List.getElem?_eq_none (by omega),List.getElem?_eq_none (by omega)];rfl
 obtain⟨ch,tu,ha,ga,gr⟩:=p
 simp only[playOut,DTrap.mk.injEq]
 exact⟨h.ch.symm,h.tu.symm,h.ha.symm,h.gates.symm,hg⟩
end Go.Proofs.YtnglkclmplfnpaaGreat

/-
  Doors: Play: groups and gates are written through.
-/
namespace Go.Proofs.YtnglkclmplfnpaaGreat
open Go.Ab
abbrev plFr(t:DTrap)(d:Nat)(tu T1:Int)(o:Nat)(n:List Int)(gs:List DGate)(rs:List DGroup):Ab.Loc:=[(48, .cell [i64 t.chambers,i64 tu,i64 t.hands, .asl d 1728 3 t.gates.length 0 t.gates.length, .asl d 1776 2 t.groups.length 0 t.groups.length]),(96, .cell zeroT),(144, .cell (sceneL T1 (o:Nat) n)),(1728, .arr 3 (es cGate gs)),(1776, .arr 2 (es cGroup rs))]
theorem moved_take {n:List Int} {gs:List DGroup}:movedG (n.take gs.length) 0 gs=movedG n 0 gs:=by
 apply List.ext_getElem?
 intro i
 simp only[movedG_get,Nat.zero_add]
 by_cases hi:i<gs.length
 ·rw[List.getElem?_eq_getElem hi]
  simp only[Option.map_some,Option.some.injEq,List.length_take,List.getD_eq_getElem?_getD,List.getElem?_take,if_pos hi]
  by_cases hn:i<n.length
  ·rw[if_pos (by omega),if_pos hn]
  ·rw[if_neg (by omega),if_neg hn]
 ·rw[List.getElem?_eq_none (by omega)];rfl
set_option maxHeartbeats 8000000 in
theorem play_l3(t:DTrap)(h:DoorOk t)(tu T1:Int)(o:Nat)(x0 x1 x2:Int)(gs:List DGate)(s:Stk):
 Run T b14l3 [(3, .ptr s.length 48 0),(6, .ptr s.length 96 0),(9, .ptr s.length 144 0),(134,i64 t.groups.length),(135,i64 0)] (plFr t s.length tu T1 o [x0,x1,x2] gs t.groups::s)=
  some (.exit 6,[(3, .ptr s.length 48 0),(6, .ptr s.length 96 0),(9, .ptr s.length 144 0),(134,i64 t.groups.length),(135,i64 t.groups.length),(136, .bool false)],plFr t s.length tu T1 o [x0,x1,x2] gs (movedG [x0,x1,x2] 0 t.groups)::s):=by
 have hol:=h.ol
 have hml:([x0,x1,x2].take t.groups.length).length=t.groups.length:=by simp;omega
 have key:=loop_fold (T:=Go.Proofs.YtnglkclmplfnpaaGreat.T) (live:=[3,6,9,134,135]) (keep:=[48,96,144,1728,1776]) (b:=d14l3) (List.range ([x0,x1,x2].take t.groups.length).length) (fun _ (rs:List DGroup)=>rs.length=t.groups.length) (moveStep ([x0,x1,x2].take t.groups.length))
  (fun k _=>[(3, .ptr s.length 48 0),(6, .ptr s.length 96 0),(9, .ptr s.length 144 0),(134,i64 t.groups.length),(135,i64 (k:Nat))]) (fun _ rs=>plFr t s.length tu T1 o [x0,x1,x2] gs rs::s)
  (fun rs=>(.exit 6,[(3, .ptr s.length 48 0),(6, .ptr s.length 96 0),(9, .ptr s.length 144 0),(134,i64 t.groups.length),(135,i64 t.groups.length),(136, .bool false)],plFr t s.length tu T1 o [x0,x1,x2] gs rs::s))
  (by simp) ?_ ?_ ?_ t.groups rfl [(3, .ptr s.length 48 0),(6, .ptr s.length 96 0),(9, .ptr s.length 144 0),(134,i64 t.groups.length),(135,i64 0)] (plFr t s.length tu T1 o [x0,x1,x2] gs t.groups::s) (by simp) (by simp)
 ·rw[moveStep_all,moved_take]at key
  exact key
 ·intro k rs hk hi
  simp only[List.length_range,hml]at hk
  simp only[List.getElem_range]
  have hkl:k<rs.length:=by omega
  have hkm:(k:Int)<t.groups.length:=by omega
  have hset:=fun a ha=>es_setGroup rs k hkl a rs[k].fish rfl ([x0,x1,x2].take t.groups.length) ha
  have hgt:([x0,x1,x2].take t.groups.length).getD k 0=[x0,x1,x2].getD k 0:=by
   simp only[List.getD_eq_getElem?_getD,List.getElem?_take,if_pos hk]
  rw[hgt]at hset
  generalize hG:rs[k]=G at*
  generalize moveStep ([x0,x1,x2].take t.groups.length) rs k=rs' at*
  have hk3: ∀j:Int,j=(k:Int)→j<(t.groups.length:Int):=fun j e=>by omega
  have hk5: ∀j:Nat,j=k→j<t.groups.length:=fun j e=>by omega
  obtain rfl|rfl|rfl:k=0∨k=1∨k=2:=by omega
  ·have hk4:=hk3 0 rfl
   have hk6:=hk5 0 rfl
   have hs1:=hset x0 rfl
   have w1:IntKind.i64.wrap 1=1:=by decide +kernel
   simp (maxSteps:=1000000) (disch:=first|omega|assumption|decide +kernel|(simp;done)|(simp;omega)|fail) [run_drawnK,orSlow_none,hk,hkl,hkm,hk4,hk6,hi,hG,hs1,w1]
  ·have hk4:=hk3 1 rfl
   have hk6:=hk5 1 rfl
   have hs1:=hset x1 rfl
   have w1:IntKind.i64.wrap 2=2:=by decide +kernel
   simp (maxSteps:=1000000) (disch:=first|omega|assumption|decide +kernel|(simp;done)|(simp;omega)|fail) [run_drawnK,orSlow_none,hk,hkl,hkm,hk4,hk6,hi,hG,hs1,w1]
  ·have hk4:=hk3 2 rfl
   have hk6:=hk5 2 rfl
   have hs1:=hset x2 rfl
   have w1:IntKind.i64.wrap 3=3:=by decide +kernel
   simp (maxSteps:=1000000) (disch:=first|omega|assumption|decide +kernel|(simp;done)|(simp;omega)|fail) [run_drawnK,orSlow_none,hk,hkl,hkm,hk4,hk6,hi,hG,hs1,w1]
 ·intro k rs hk hi
  rw[moveStep_len,hi]
 ·intro rs hi
  simp[hml]
end Go.Proofs.YtnglkclmplfnpaaGreat

/-
  Doors: Play: gates are written through.
-/
namespace Go.Proofs.YtnglkclmplfnpaaGreat
open Go.Ab
def setF(o:Nat)(gs:List DGate)(k:Nat):List DGate:=gs.modify k fun g=> {g with op:=o.testBit k}
theorem setF_len(o gs k):(setF o gs k).length=gs.length:=by simp[setF]
theorem setF_all(o:Nat)(gs:List DGate):(List.range gs.length).foldl (setF o) gs=openG o gs:=by
 have key: ∀n,n≤gs.length→ ∀i:Nat,((List.range n).foldl (setF o) gs)[i]? =(gs[i]?).map fun g=>if i<n then {g with op:=o.testBit i}else g:=by
  intro n
  induction n with
  |zero=>intro _ i;cases h:gs[i]? <;>simp[h]
  |succ n ih=>
    intro hn i
    rw[List.range_succ,List.foldl_append]
    simp only[List.foldl_cons,List.foldl_nil]
    rw[setF,List.getElem?_modify,ih (by omega) i]
    cases hg:gs[i]? with
    |none=>simp
    |some g=>
      by_cases e:n=i
      ·subst e;simp
      ·by_cases h1:i<n
       ·simp[e,h1,show i<n+1 by omega]
       ·simp[e,h1,show¬i<n+1 by omega]
 apply List.ext_getElem?
 intro i
 rw[key gs.length (Nat.le_refl _) i]
 unfold openG
 rw[openS_get,Nat.zero_add]
 by_cases hi:i<gs.length
 ·rw[List.getElem?_eq_getElem hi];simp[hi]
 ·rw[List.getElem?_eq_none (by omega)];rfl
theorem es_setF(o:Nat)(gs:List DGate)(j:Nat)(hj:j<gs.length)(v:Bool)(hv:o.testBit j=v):(es cGate gs).set j [i64 gs[j].a,i64 gs[j].b, .bool v]=es cGate (setF o gs j):=by
 apply List.ext_getElem?
 intro i
 simp only[es,setF,List.getElem?_set,List.getElem?_map,List.getElem?_modify,List.length_map]
 by_cases e:j=i
 ·subst e
  subst hv
  simp[hj]
 ·simp[e]
set_option maxHeartbeats 8000000 in
theorem play_l2(t:DTrap)(h:DoorOk t)(tu T1:Int)(o:Nat)(ho:o<32)(n:List Int)(rs:List DGroup)(s:Stk):
 Run T b14l2 [(3, .ptr s.length 48 0),(6, .ptr s.length 96 0),(9, .ptr s.length 144 0),(116,i64 t.gates.length),(117,i64 0)] ([(48, .cell [i64 t.chambers,i64 tu,i64 t.hands, .asl s.length 1728 3 t.gates.length 0 t.gates.length, .asl s.length 1776 2 t.groups.length 0 t.groups.length]),(96, .cell zeroT),(416, .cell (gameV t (chB t) (.mp (.ptr s.length 1416 0)))),(1416, .mp (some 5) []),(144, .cell (sceneL T1 (o:Nat) n)),(1728, .arr 3 (es cGate t.gates)),(1776, .arr 2 (es cGroup rs))]::s)=
  some (.exit 4,[(3, .ptr s.length 48 0),(6, .ptr s.length 96 0),(9, .ptr s.length 144 0),(116,i64 t.gates.length),(117,i64 t.gates.length),(118, .bool false)],plFr t s.length tu T1 o n (openG o t.gates) rs::s):=by
 have hgl:=h.gl
 have key:=loop_fold (T:=Go.Proofs.YtnglkclmplfnpaaGreat.T) (live:=[3,6,9,116,117]) (keep:=[48,96,144,1728,1776]) (b:=d14l2) (List.range t.gates.length) (fun _ (gs:List DGate)=>gs.length=t.gates.length) (setF o)
  (fun k _=>[(3, .ptr s.length 48 0),(6, .ptr s.length 96 0),(9, .ptr s.length 144 0),(116,i64 t.gates.length),(117,i64 (k:Nat))]) (fun _ gs=>plFr t s.length tu T1 o n gs rs::s)
  (fun gs=>(.exit 4,[(3, .ptr s.length 48 0),(6, .ptr s.length 96 0),(9, .ptr s.length 144 0),(116,i64 t.gates.length),(117,i64 t.gates.length),(118, .bool false)],plFr t s.length tu T1 o n gs rs::s))
  (by simp) ?_ ?_ ?_ t.gates rfl [(3, .ptr s.length 48 0),(6, .ptr s.length 96 0),(9, .ptr s.length 144 0),(116,i64 t.gates.length),(117,i64 0)] ([(48, .cell [i64 t.chambers,i64 tu,i64 t.hands, .asl s.length 1728 3 t.gates.length 0 t.gates.length, .asl s.length 1776 2 t.groups.length 0 t.groups.length]),(96, .cell zeroT),(416, .cell (gameV t (chB t) (.mp (.ptr s.length 1416 0)))),(1416, .mp (some 5) []),(144, .cell (sceneL T1 (o:Nat) n)),(1728, .arr 3 (es cGate t.gates)),(1776, .arr 2 (es cGroup rs))]::s) (by simp) (by simp)
 ·rw[setF_all]at key
  exact key
 ·intro k gs hk hi
  simp only[List.length_range]at hk
  simp only[List.getElem_range]
  have hkl:k<gs.length:=by omega
  have hkm:(k:Int)<t.gates.length:=by omega
  have hset:=es_setF o gs k hkl
  have hb1:=bshr (a:=o) (n:=k) (by omega)
  have hle:=shr_le o k
  have hb2:=band (a:=shrN o k) (by omega)
  have hl:=low_le (shrN o k)
  have hlb:=low_bit o k
  generalize shrN o k=sh at*
  generalize lowN sh=y at*
  generalize hG:gs[k]=G at*
  generalize setF o gs k=gs' at*
  by_cases hy:y=1
  ·have hy':(y:Int)=1:=by omega
   have hs1:=hset true (by cases hq:o.testBit k with|true=>rfl|false=>rw[hq]at hlb;simp at hlb;omega)
   simp (maxSteps:=1000000) (disch:=first|omega|assumption|decide +kernel|(simp;done)|(simp;omega)|fail) [run_drawnK,orSlow_none,hk,hkl,hkm,hi,hG,hb1,hb2,hy,hy',hs1,-bin_shr,-bin_and,wk k (by omega)]
  ·have hy': ¬(y:Int)=1:=by omega
   have hs1:=hset false (by rw[←hlb];omega)
   simp (maxSteps:=1000000) (disch:=first|omega|assumption|decide +kernel|(simp;done)|(simp;omega)|fail) [run_drawnK,orSlow_none,hk,hkl,hkm,hi,hG,hb1,hb2,hy,hy',hs1,-bin_shr,-bin_and,wk k (by omega)]
 ·intro k gs hk hi
  rw[setF_len,hi]
 ·intro gs hi
  simp
end Go.Proofs.YtnglkclmplfnpaaGreat

/-
  Doors: Clones of gates and groups.
-/
namespace Go.Proofs.YtnglkclmplfnpaaGreat
open Go.Ab
theorem e_CloneG(l:List DGate)(h1: ¬l=[])(h2:l.length≤40)(F:Ab.Loc)(s:Stk)(lab:Nat)(hF:Loc.get F lab=none):den T 36 [.sl .no 3 (es cGate l)] lab (F::s)=some (.asl s.length lab 3 l.length 0 l.length,Loc.put F lab (.arr 3 (es cGate l))::s):=by
 have e:den T 36 [.sl .no 3 (es cGate l)] lab (F::s)=den T36 36 [.sl .no 3 (es cGate l)] lab (F::s):=by
  obtain⟨x,r,rfl⟩:=List.exists_cons_of_ne_nil h1
  exact clone36_c _ _ _ _ _ _
 rw[e,den_fn w36 _ _ _ rfl]
 simp only[b36]
 simp (maxSteps:=1000000) (disch:=first|omega|assumption|decide +kernel|(simp;done)|(simp;omega)|fail) [h1,h2,hF,appmK_es]
theorem e_CloneG0(F:Ab.Loc)(s:Stk)(lab:Nat):den T 36 [.sl .no 3 []] lab (F::s)=some (.sl .full 3 [],F::s):=by
 rw[clone36_e,den_fn w36e _ _ _ rfl]
 simp only[b36e]
 simp (maxSteps:=1000000) (disch:=first|omega|assumption|decide +kernel|(simp;done)|(simp;omega)|fail) [appK_full_nil]
theorem e_CloneP(l:List DGroup)(h1: ¬l=[])(h2:l.length≤40)(F:Ab.Loc)(s:Stk)(lab:Nat)(hF:Loc.get F lab=none):den T 37 [.sl .no 2 (es cGroup l)] lab (F::s)=some (.asl s.length lab 2 l.length 0 l.length,Loc.put F lab (.arr 2 (es cGroup l))::s):=by
 have e:den T 37 [.sl .no 2 (es cGroup l)] lab (F::s)=den T37 37 [.sl .no 2 (es cGroup l)] lab (F::s):=by
  obtain⟨x,r,rfl⟩:=List.exists_cons_of_ne_nil h1
  exact clone37_c _ _ _ _ _ _
 rw[e,den_fn w37 _ _ _ rfl]
 simp only[b37]
 simp (maxSteps:=1000000) (disch:=first|omega|assumption|decide +kernel|(simp;done)|(simp;omega)|fail) [h1,h2,hF,appmK_es]
theorem e_CloneP0(F:Ab.Loc)(s:Stk)(lab:Nat):den T 37 [.sl .no 2 []] lab (F::s)=some (.sl .full 2 [],F::s):=by
 rw[clone37_e,den_fn w37e _ _ _ rfl]
 simp only[b37e]
 simp (maxSteps:=1000000) (disch:=first|omega|assumption|decide +kernel|(simp;done)|(simp;omega)|fail) [appK_full_nil]
end Go.Proofs.YtnglkclmplfnpaaGreat

/-
  Doors: Play: the same where a trap has no gates or no groups.
-/
namespace Go.Proofs.YtnglkclmplfnpaaGreat
open Go.Ab
abbrev plFrA(t:DTrap)(d:Nat)(tu T1:Int)(o:Nat)(n:List Int)(gs:List DGate):Ab.Loc:=[(48, .cell [i64 t.chambers,i64 tu,i64 t.hands, .asl d 1728 3 t.gates.length 0 t.gates.length, .sl .full 2 []]),(96, .cell zeroT),(144, .cell (sceneL T1 (o:Nat) n)),(1728, .arr 3 (es cGate gs))]
abbrev plFrB(t:DTrap)(d:Nat)(tu T1:Int)(o:Nat)(n:List Int)(rs:List DGroup):Ab.Loc:=[(48, .cell [i64 t.chambers,i64 tu,i64 t.hands, .sl .full 3 [], .asl d 1776 2 t.groups.length 0 t.groups.length]),(96, .cell zeroT),(144, .cell (sceneL T1 (o:Nat) n)),(1776, .arr 2 (es cGroup rs))]
abbrev plFrC(t:DTrap)(tu T1:Int)(o:Nat)(n:List Int):Ab.Loc:=[(48, .cell [i64 t.chambers,i64 tu,i64 t.hands, .sl .full 3 [], .sl .full 2 []]),(96, .cell zeroT),(144, .cell (sceneL T1 (o:Nat) n))]
set_option maxHeartbeats 8000000 in
theorem play_l2e(t:DTrap)(h:DoorOk t)(tu T1:Int)(o:Nat)(ho:o<32)(n:List Int)(s:Stk):
 Run T b14l2 [(3, .ptr s.length 48 0),(6, .ptr s.length 96 0),(9, .ptr s.length 144 0),(116,i64 t.gates.length),(117,i64 0)] ([(48, .cell [i64 t.chambers,i64 tu,i64 t.hands, .asl s.length 1728 3 t.gates.length 0 t.gates.length, .sl .full 2 []]),(96, .cell zeroT),(416, .cell (gameV t (chB t) (.mp (.ptr s.length 1416 0)))),(1416, .mp (some 5) []),(144, .cell (sceneL T1 (o:Nat) n)),(1728, .arr 3 (es cGate t.gates))]::s)=
  some (.exit 4,[(3, .ptr s.length 48 0),(6, .ptr s.length 96 0),(9, .ptr s.length 144 0),(116,i64 t.gates.length),(117,i64 t.gates.length),(118, .bool false)],plFrA t s.length tu T1 o n (openG o t.gates)::s):=by
 have hgl:=h.gl
 have key:=loop_fold (T:=Go.Proofs.YtnglkclmplfnpaaGreat.T) (live:=[3,6,9,116,117]) (keep:=[48,96,144,1728,1776]) (b:=d14l2) (List.range t.gates.length) (fun _ (gs:List DGate)=>gs.length=t.gates.length) (setF o)
  (fun k _=>[(3, .ptr s.length 48 0),(6, .ptr s.length 96 0),(9, .ptr s.length 144 0),(116,i64 t.gates.length),(117,i64 (k:Nat))]) (fun _ gs=>plFrA t s.length tu T1 o n gs::s)
  (fun gs=>(.exit 4,[(3, .ptr s.length 48 0),(6, .ptr s.length 96 0),(9, .ptr s.length 144 0),(116,i64 t.gates.length),(117,i64 t.gates.length),(118, .bool false)],plFrA t s.length tu T1 o n gs::s))
  (by simp) ?_ ?_ ?_ t.gates rfl [(3, .ptr s.length 48 0),(6, .ptr s.length 96 0),(9, .ptr s.length 144 0),(116,i64 t.gates.length),(117,i64 0)] ([(48, .cell [i64 t.chambers,i64 tu,i64 t.hands, .asl s.length 1728 3 t.gates.length 0 t.gates.length, .sl .full 2 []]),(96, .cell zeroT),(416, .cell (gameV t (chB t) (.mp (.ptr s.length 1416 0)))),(1416, .mp (some 5) []),(144, .cell (sceneL T1 (o:Nat) n)),(1728, .arr 3 (es cGate t.gates))]::s) (by simp) (by simp)
 ·rw[setF_all]at key
  exact key
 ·intro k gs hk hi
  simp only[List.length_range]at hk
  simp only[List.getElem_range]
  have hkl:k<gs.length:=by omega
  have hkm:(k:Int)<t.gates.length:=by omega
  have hset:=es_setF o gs k hkl
  have hb1:=bshr (a:=o) (n:=k) (by omega)
  have hle:=shr_le o k
  have hb2:=band (a:=shrN o k) (by omega)
  have hl:=low_le (shrN o k)
  have hlb:=low_bit o k
  generalize shrN o k=sh at*
  generalize lowN sh=y at*
  generalize hG:gs[k]=G at*
  generalize setF o gs k=gs' at*
  by_cases hy:y=1
  ·have hy':(y:Int)=1:=by omega
   have hs1:=hset true (by cases hq:o.testBit k with|true=>rfl|false=>rw[hq]at hlb;simp at hlb;omega)
   simp (maxSteps:=1000000) (disch:=first|omega|assumption|decide +kernel|(simp;done)|(simp;omega)|fail) [run_drawnK,orSlow_none,hk,hkl,hkm,hi,hG,hb1,hb2,hy,hy',hs1,-bin_shr,-bin_and,wk k (by omega)]
  ·have hy': ¬(y:Int)=1:=by omega
   have hs1:=hset false (by rw[←hlb];omega)
   simp (maxSteps:=1000000) (disch:=first|omega|assumption|decide +kernel|(simp;done)|(simp;omega)|fail) [run_drawnK,orSlow_none,hk,hkl,hkm,hi,hG,hb1,hb2,hy,hy',hs1,-bin_shr,-bin_and,wk k (by omega)]
 ·intro k gs hk hi
  rw[setF_len,hi]
 ·intro gs hi
  simp
set_option maxHeartbeats 8000000 in
theorem play_l3e(t:DTrap)(h:DoorOk t)(tu T1:Int)(o:Nat)(x0 x1 x2:Int)(s:Stk):
 Run T b14l3 [(3, .ptr s.length 48 0),(6, .ptr s.length 96 0),(9, .ptr s.length 144 0),(134,i64 t.groups.length),(135,i64 0)] (plFrB t s.length tu T1 o [x0,x1,x2] t.groups::s)=
  some (.exit 6,[(3, .ptr s.length 48 0),(6, .ptr s.length 96 0),(9, .ptr s.length 144 0),(134,i64 t.groups.length),(135,i64 t.groups.length),(136, .bool false)],plFrB t s.length tu T1 o [x0,x1,x2] (movedG [x0,x1,x2] 0 t.groups)::s):=by
 have hol:=h.ol
 have hml:([x0,x1,x2].take t.groups.length).length=t.groups.length:=by simp;omega
 have key:=loop_fold (T:=Go.Proofs.YtnglkclmplfnpaaGreat.T) (live:=[3,6,9,134,135]) (keep:=[48,96,144,1728,1776]) (b:=d14l3) (List.range ([x0,x1,x2].take t.groups.length).length) (fun _ (rs:List DGroup)=>rs.length=t.groups.length) (moveStep ([x0,x1,x2].take t.groups.length))
  (fun k _=>[(3, .ptr s.length 48 0),(6, .ptr s.length 96 0),(9, .ptr s.length 144 0),(134,i64 t.groups.length),(135,i64 (k:Nat))]) (fun _ rs=>plFrB t s.length tu T1 o [x0,x1,x2] rs::s)
  (fun rs=>(.exit 6,[(3, .ptr s.length 48 0),(6, .ptr s.length 96 0),(9, .ptr s.length 144 0),(134,i64 t.groups.length),(135,i64 t.groups.length),(136, .bool false)],plFrB t s.length tu T1 o [x0,x1,x2] rs::s))
  (by simp) ?_ ?_ ?_ t.groups rfl [(3, .ptr s.length 48 0),(6, .ptr s.length 96 0),(9, .ptr s.length 144 0),(134,i64 t.groups.length),(135,i64 0)] (plFrB t s.length tu T1 o [x0,x1,x2] t.groups::s) (by simp) (by simp)
 ·rw[moveStep_all,moved_take]at key
  exact key
 ·intro k rs hk hi
  simp only[List.length_range,hml]at hk
  simp only[List.getElem_range]
  have hkl:k<rs.length:=by omega
  have hkm:(k:Int)<t.groups.length:=by omega
  have hset:=fun a ha=>es_setGroup rs k hkl a rs[k].fish rfl ([x0,x1,x2].take t.groups.length) ha
  have hgt:([x0,x1,x2].take t.groups.length).getD k 0=[x0,x1,x2].getD k 0:=by
   simp only[List.getD_eq_getElem?_getD,List.getElem?_take,if_pos hk]
  rw[hgt]at hset
  generalize hG:rs[k]=G at*
  generalize moveStep ([x0,x1,x2].take t.groups.length) rs k=rs' at*
  have hk3: ∀j:Int,j=(k:Int)→j<(t.groups.length:Int):=fun j e=>by omega
  have hk5: ∀j:Nat,j=k→j<t.groups.length:=fun j e=>by omega
  obtain rfl|rfl|rfl:k=0∨k=1∨k=2:=by omega
  ·have hk4:=hk3 0 rfl
   have hk6:=hk5 0 rfl
   have hs1:=hset x0 rfl
   have w1:IntKind.i64.wrap 1=1:=by decide +kernel
   simp (maxSteps:=1000000) (disch:=first|omega|assumption|decide +kernel|(simp;done)|(simp;omega)|fail) [run_drawnK,orSlow_none,hk,hkl,hkm,hk4,hk6,hi,hG,hs1,w1]
  ·have hk4:=hk3 1 rfl
   have hk6:=hk5 1 rfl
   have hs1:=hset x1 rfl
   have w1:IntKind.i64.wrap 2=2:=by decide +kernel
   simp (maxSteps:=1000000) (disch:=first|omega|assumption|decide +kernel|(simp;done)|(simp;omega)|fail) [run_drawnK,orSlow_none,hk,hkl,hkm,hk4,hk6,hi,hG,hs1,w1]
  ·have hk4:=hk3 2 rfl
   have hk6:=hk5 2 rfl
   have hs1:=hset x2 rfl
   have w1:IntKind.i64.wrap 3=3:=by decide +kernel
   simp (maxSteps:=1000000) (disch:=first|omega|assumption|decide +kernel|(simp;done)|(simp;omega)|fail) [run_drawnK,orSlow_none,hk,hkl,hkm,hk4,hk6,hi,hG,hs1,w1]
 ·intro k rs hk hi
  rw[moveStep_len,hi]
 ·intro rs hi
  simp[hml]
theorem play_l2s(t:DTrap)(tu T1:Int)(o:Nat)(n:List Int)(rs:List DGroup)(s:Stk):
 Run T b14l2 [(3, .ptr s.length 48 0),(6, .ptr s.length 96 0),(9, .ptr s.length 144 0),(116,i64 0),(117,i64 0)] ([(48, .cell [i64 t.chambers,i64 tu,i64 t.hands, .sl .full 3 [], .asl s.length 1776 2 t.groups.length 0 t.groups.length]),(96, .cell zeroT),(416, .cell (gameV t (chB t) (.mp (.ptr s.length 1416 0)))),(1416, .mp (some 5) []),(144, .cell (sceneL T1 (o:Nat) n)),(1776, .arr 2 (es cGroup rs))]::s)=some (.exit 4,[(3, .ptr s.length 48 0),(6, .ptr s.length 96 0),(9, .ptr s.length 144 0),(116,i64 0),(117,i64 0),(118, .bool false)],plFrB t s.length tu T1 o n rs::s):=by
 refine loop_fold (T:=Go.Proofs.YtnglkclmplfnpaaGreat.T) (live:=[3,6,9,116,117]) (keep:=[48,96,144,1728,1776]) (b:=d14l2) ([]:List Nat) (fun _ (_:Unit)=>True) (fun _ _=>())
  (fun _ _=>[(3, .ptr s.length 48 0),(6, .ptr s.length 96 0),(9, .ptr s.length 144 0),(116,i64 0),(117,i64 0)]) (fun _ _=>plFrB t s.length tu T1 o n rs::s) (fun _=>(.exit 4,[(3, .ptr s.length 48 0),(6, .ptr s.length 96 0),(9, .ptr s.length 144 0),(116,i64 0),(117,i64 0),(118, .bool false)],plFrB t s.length tu T1 o n rs::s))
  (by simp) ?_ ?_ ?_ () trivial _ _ (by simp) (by simp)
 ·intro k a hk;simp at hk
 ·intro k a hk;simp at hk
 ·intro a _;simp
theorem play_l2c(t:DTrap)(tu T1:Int)(o:Nat)(n:List Int)(s:Stk):
 Run T b14l2 [(3, .ptr s.length 48 0),(6, .ptr s.length 96 0),(9, .ptr s.length 144 0),(116,i64 0),(117,i64 0)] ([(48, .cell [i64 t.chambers,i64 tu,i64 t.hands, .sl .full 3 [], .sl .full 2 []]),(96, .cell zeroT),(416, .cell (gameV t (chB t) (.mp (.ptr s.length 1416 0)))),(1416, .mp (some 5) []),(144, .cell (sceneL T1 (o:Nat) n))]::s)=some (.exit 4,[(3, .ptr s.length 48 0),(6, .ptr s.length 96 0),(9, .ptr s.length 144 0),(116,i64 0),(117,i64 0),(118, .bool false)],plFrC t tu T1 o n::s):=by
 refine loop_fold (T:=Go.Proofs.YtnglkclmplfnpaaGreat.T) (live:=[3,6,9,116,117]) (keep:=[48,96,144,1728,1776]) (b:=d14l2) ([]:List Nat) (fun _ (_:Unit)=>True) (fun _ _=>())
  (fun _ _=>[(3, .ptr s.length 48 0),(6, .ptr s.length 96 0),(9, .ptr s.length 144 0),(116,i64 0),(117,i64 0)]) (fun _ _=>plFrC t tu T1 o n::s) (fun _=>(.exit 4,[(3, .ptr s.length 48 0),(6, .ptr s.length 96 0),(9, .ptr s.length 144 0),(116,i64 0),(117,i64 0),(118, .bool false)],plFrC t tu T1 o n::s))
  (by simp) ?_ ?_ ?_ () trivial _ _ (by simp) (by simp)
 ·intro k a hk;simp at hk
 ·intro k a hk;simp at hk
 ·intro a _;simp
theorem play_l3s(t:DTrap)(tu T1:Int)(o:Nat)(n:List Int)(gs:List DGate)(s:Stk):
 Run T b14l3 [(3, .ptr s.length 48 0),(6, .ptr s.length 96 0),(9, .ptr s.length 144 0),(134,i64 0),(135,i64 0)] (plFrA t s.length tu T1 o n gs::s)=some (.exit 6,[(3, .ptr s.length 48 0),(6, .ptr s.length 96 0),(9, .ptr s.length 144 0),(134,i64 0),(135,i64 0),(136, .bool false)],plFrA t s.length tu T1 o n gs::s):=by
 refine loop_fold (T:=Go.Proofs.YtnglkclmplfnpaaGreat.T) (live:=[3,6,9,134,135]) (keep:=[48,96,144,1728,1776]) (b:=d14l3) ([]:List Nat) (fun _ (_:Unit)=>True) (fun _ _=>())
  (fun _ _=>[(3, .ptr s.length 48 0),(6, .ptr s.length 96 0),(9, .ptr s.length 144 0),(134,i64 0),(135,i64 0)]) (fun _ _=>plFrA t s.length tu T1 o n gs::s) (fun _=>(.exit 6,[(3, .ptr s.length 48 0),(6, .ptr s.length 96 0),(9, .ptr s.length 144 0),(134,i64 0),(135,i64 0),(136, .bool false)],plFrA t s.length tu T1 o n gs::s))
  (by simp) ?_ ?_ ?_ () trivial _ _ (by simp) (by simp)
 ·intro k a hk;simp at hk
 ·intro k a hk;simp at hk
 ·intro a _;simp
theorem play_l3c(t:DTrap)(tu T1:Int)(o:Nat)(n:List Int)(s:Stk):
 Run T b14l3 [(3, .ptr s.length 48 0),(6, .ptr s.length 96 0),(9, .ptr s.length 144 0),(134,i64 0),(135,i64 0)] (plFrC t tu T1 o n::s)=some (.exit 6,[(3, .ptr s.length 48 0),(6, .ptr s.length 96 0),(9, .ptr s.length 144 0),(134,i64 0),(135,i64 0),(136, .bool false)],plFrC t tu T1 o n::s):=by
 refine loop_fold (T:=Go.Proofs.YtnglkclmplfnpaaGreat.T) (live:=[3,6,9,134,135]) (keep:=[48,96,144,1728,1776]) (b:=d14l3) ([]:List Nat) (fun _ (_:Unit)=>True) (fun _ _=>())
  (fun _ _=>[(3, .ptr s.length 48 0),(6, .ptr s.length 96 0),(9, .ptr s.length 144 0),(134,i64 0),(135,i64 0)]) (fun _ _=>plFrC t tu T1 o n::s) (fun _=>(.exit 6,[(3, .ptr s.length 48 0),(6, .ptr s.length 96 0),(9, .ptr s.length 144 0),(134,i64 0),(135,i64 0),(136, .bool false)],plFrC t tu T1 o n::s))
  (by simp) ?_ ?_ ?_ () trivial _ _ (by simp) (by simp)
 ·intro k a hk;simp at hk
 ·intro k a hk;simp at hk
 ·intro a _;simp
end Go.Proofs.YtnglkclmplfnpaaGreat

/-
  Doors: Play.
-/
namespace Go.Proofs.YtnglkclmplfnpaaGreat
open Go.Ab
set_option maxHeartbeats 16000000 in
theorem e_Play(t:DTrap)(hs:ShortD t)(C M:List (List Int))(hc40:C.length≤40)(hm40:M.length≤40)(hc: ∀x∈C,x.length≤40)(hm: ∀x∈M,x.length≤40)(lab s):
 den T 14 [.agg (dV t), .sl .no 1 (es cInts C), .sl .no 1 (es cInts M)] lab s=some (.tup [.agg (dV (playR t C M).1),i64 (playR t C M).2],s):=by
 unfold playR
 cases h:doorBDd t
 ·have hb:=fun b lab loc s=>e_begin_bad t hs h b lab loc s
  simp only[Bool.false_eq_true,if_false,dV_zero]
  rw[den_fn t14 _ _ _ rfl]
  simp only[b14]
  simp (maxSteps:=1000000) (disch:=first|omega|assumption|decide +kernel|(simp;done)|(simp;omega)|fail) [run_drawnK,orSlow_none,hb]
 have ho:=doorB_iff.1 h
 have htu:=ho.tu
 by_cases hl:C.length=M.length
 rotate_left
 ·have hl': ¬(C.length:Int)=M.length:=by omega
  have hb:=fun lab loc s=>e_begin_arg t ho lab loc s
  simp only[if_true,if_neg hl,dV_zero]
  rw[den_fn t14 _ _ _ rfl]
  simp only[b14]
  simp (maxSteps:=1000000) (disch:=first|omega|assumption|decide +kernel|(simp;done)|(simp;omega)|fail) [run_drawnK,orSlow_none,hb,hl']
 have hl':(C.length:Int)=M.length:=by omega
 have hb:=fun lab loc k0 k1=>e_begin t ho lab loc s k0 k1
 simp only[scene0]at hb
 by_cases hT:(C.length:Int)≤t.turns
 rotate_left
 ·have hT':t.turns<(M.length:Int):=by omega
  simp only[if_true,if_pos hl,if_neg hT,dV_zero]
  rw[den_fn t14 _ _ _ rfl]
  simp only[b14]
  simp (maxSteps:=1000000) (disch:=first|omega|assumption|decide +kernel|(simp;done)|(simp;omega)|fail) [run_drawnK,orSlow_none,hb,hl',hT']
 have hT': ¬t.turns<(M.length:Int):=by omega
 have wt:IntKind.i64.wrap (t.turns-M.length)=t.turns-M.length:=wi _ (by omega) (by omega)
 obtain⟨⟨g,hg⟩,hlp⟩:=play_l0 t ho C M hl hT hc hm t.turns _ (playI_0 ho) s
 obtain⟨r1,r2⟩:=playF_rel (C:=C) (M:=M) (playI_0 ho) hT
 rw[r1]at hlp
 simp only[nAt,gN,playFr,sceneL,List.map_cons,List.map_nil,zeroT]at hlp
 by_cases hbp:(playF t C M).2=true
 rotate_left
 ·rw[if_neg hbp]at hlp
  simp only[if_true,if_pos hl,if_pos hT,if_neg hbp,dV_zero]
  rw[hl']at hlp
  rw[den_fn t14 _ _ _ rfl]
  simp only[b14]
  simp (maxSteps:=1000000) (disch:=first|omega|assumption|decide +kernel|(simp;done)|(simp;omega)|fail) [run_drawnK,orSlow_none,hb,hl',hT',hlp,hg]
 have hI:=r2 hbp
 rw[if_pos hbp]at hlp
 simp only[if_true,if_pos hl,if_pos hT,if_pos hbp]
 rw[←playOut_eq hI]
 have hon:=hI.o
 have hnn:=hI.n
 simp only[nAt,gN]at hon hnn⊢
 generalize (foldB (plStep t C M) (List.range C.length) (gateBits t.gates,[at0 t 0,at0 t 1,at0 t 2])).1=a at*
 obtain⟨o,n⟩:=a
 obtain⟨x0,x1,x2,rfl⟩: ∃x0 x1 x2,n=[x0,x1,x2]:=by
  match n,hnn with
  |[x0,x1,x2],_=>exact⟨x0,x1,x2,rfl⟩
 simp only at hlp hon⊢
 rw[hl']at hlp
 have hgl:=ho.gl
 have hol:=ho.ol
 unfold playOut
 have h2:=fun rs=>play_l2 t ho (t.turns-M.length) t.turns o hon [x0,x1,x2] rs s
 have h2e:=play_l2e t ho (t.turns-M.length) t.turns o hon [x0,x1,x2] s
 have h3:=fun gs=>play_l3 t ho (t.turns-M.length) t.turns o x0 x1 x2 gs s
 have h3e:=play_l3e t ho (t.turns-M.length) t.turns o x0 x1 x2 s
 have h2s:=fun rs=>play_l2s t (t.turns-M.length) t.turns o [x0,x1,x2] rs s
 have h2c:=play_l2c t (t.turns-M.length) t.turns o [x0,x1,x2] s
 have h3s:=fun gs=>play_l3s t (t.turns-M.length) t.turns o [x0,x1,x2] gs s
 have h3c:=play_l3c t (t.turns-M.length) t.turns o [x0,x1,x2] s
 have cg:=fun(e: ¬t.gates=[]) F lab k=>e_CloneG t.gates e (by omega) F s lab k
 have cp:=fun(e: ¬t.groups=[]) F lab k=>e_CloneP t.groups e (by omega) F s lab k
 have cg0:=fun F lab=>e_CloneG0 F s lab
 have cp0:=fun F lab=>e_CloneP0 F s lab
 simp only[plFr,plFrA,plFrB,plFrC,zeroT,sceneL,List.map_cons,List.map_nil]at h2 h2e h3 h3e h2s h2c h3s h3c
 have tk1:(openG o t.gates).take t.gates.length=openG o t.gates:=List.take_of_length_le (by simp)
 have tk2:(movedG [x0,x1,x2] 0 t.groups).take t.groups.length=movedG [x0,x1,x2] 0 t.groups:=List.take_of_length_le (by simp)
 by_cases eg:t.gates=[]
 ·have eg1:es cGate t.gates=[]:=by rw[eg];rfl
  have eg2:t.gates.length=0:=by rw[eg];rfl
  have eg3:openG o t.gates=[]:=by rw[eg];rfl
  by_cases ep:t.groups=[]
  ·have ep1:es cGroup t.groups=[]:=by rw[ep];rfl
   have ep2:t.groups.length=0:=by rw[ep];rfl
   have ep3:movedG [x0,x1,x2] 0 t.groups=[]:=by rw[ep];rfl
   simp only[dV,eg1,ep1]at hb hlp
   simp only[dV,eg1,ep1,eg3,ep3,es_nil]
   rw[den_fn t14 _ _ _ rfl]
   simp only[b14]
   simp (maxSteps:=1000000) (disch:=first|omega|assumption|decide +kernel|(simp;done)|(simp;omega)|fail) [run_drawnK,orSlow_none,hb,hl',hT',hlp,wt,cg0,cp0,h2c,h3c]
  ·have cp1:=cp ep
   simp only[dV,eg1]at hb hlp
   simp only[dV,eg1,eg3,es_nil]
   rw[den_fn t14 _ _ _ rfl]
   simp only[b14]
   simp (maxSteps:=1000000) (disch:=first|omega|assumption|decide +kernel|(simp;done)|(simp;omega)|fail) [run_drawnK,orSlow_none,hb,hl',hT',hlp,wt,cg0,cp1,h2s,h3,h3e,tk2]
 ·by_cases ep:t.groups=[]
  ·have cg1:=cg eg
   have ep1:es cGroup t.groups=[]:=by rw[ep];rfl
   have ep2:t.groups.length=0:=by rw[ep];rfl
   have ep3:movedG [x0,x1,x2] 0 t.groups=[]:=by rw[ep];rfl
   simp only[dV,ep1]at hb hlp
   simp only[dV,ep1,ep3,es_nil]
   rw[den_fn t14 _ _ _ rfl]
   simp only[b14]
   simp (maxSteps:=1000000) (disch:=first|omega|assumption|decide +kernel|(simp;done)|(simp;omega)|fail) [run_drawnK,orSlow_none,hb,hl',hT',hlp,wt,cg1,cp0,h2e,h3s,tk1]
  ·have cg1:=cg eg
   have cp1:=cp ep
   rw[den_fn t14 _ _ _ rfl]
   simp only[b14]
   simp (maxSteps:=1000000) (disch:=first|omega|assumption|decide +kernel|(simp;done)|(simp;omega)|fail) [run_drawnK,orSlow_none,hb,hl',hT',hlp,wt,cg1,cp1,h2,h3,tk1,tk2]
end Go.Proofs.YtnglkclmplfnpaaGreat

/-
  TopDriven: the examples; driven.
-/
namespace Go.Proofs.YtnglkclmplfnpaaGreat
open Go.Ab
theorem fishC_in {t:CTrap}(ht:trapB t=true)(hone:isOneB t=true) {i c:Nat}(hi:i<t.T)(hc:c<t.C):fishC t i c=(difR t i c i (c+1),0):=by
 have e1:t.T=t.times.toNat:=rfl
 have e2:t.C=t.chambers.toNat:=rfl
 have hp:placeB t i c=true:=by
  unfold placeB
  rw[wiB_iff.2 (by omega),wiB_iff.2 (by omega)];rfl
 unfold fishC
 rw[openT_of ht,hp,if_pos rfl,if_pos hone,if_pos rfl]
 simp only[Int.toNat_natCast]
theorem cameC_in {t:CTrap}(ht:trapB t=true)(hone:isOneB t=true) {i:Nat}(hi:i<t.T):cameC t 0 i=(difR t i 0 0 0,0):=by
 have e1:t.T=t.times.toNat:=rfl
 have hp:(wiB 0 0 (i:Int)&&decide ((i:Int)<t.times))=true:=by
  rw[wiB_iff.2 (by omega),decide_eq_true (by omega)];rfl
 unfold cameC
 rw[openT_of ht,hp,if_pos rfl,if_pos hone,if_pos rfl]
 simp only[Int.toNat_natCast,Int.toNat_zero]
def exT1:CTrap:=⟨2,3,[[0,1],[1]],[⟨0,0,5,6⟩,⟨0,1,0,0⟩,⟨1,0,3,8⟩,⟨2,1,4,10⟩]⟩
def exQ1:CTrap:=toldT exT1 ⟨1,1,12,20⟩
theorem exT1_ok:trapB exT1=true:=by decide +kernel
theorem exT1_one:isOneB exT1=true:=by decide +kernel
theorem e_word01(a b c d:Int)(lab s):den T 47 [i64 a,i64 b,i64 c,i64 d] lab s=some (.agg [i64 a,i64 b,i64 c,i64 d],s):=by
 rw[den_fn t47 _ _ _ rfl]
 simp only[b47]
 simp (maxSteps:=1000000) (disch:=first|omega|assumption|decide +kernel|(simp;done)|(simp;omega)|fail) []
set_option maxHeartbeats 2000000 in
theorem e_Example01(lab s):den T 26 [] lab s=some (.tup [.agg (vT exT1), .agg (vT exQ1)],s):=by
 have hC:=fun lab s=>e_Told01 exT1 (trapB_copy exT1_ok) ⟨1,1,12,20⟩ lab s
 unfold exQ1
 simp only[vT,exT1,toldT,List.cons_append,List.nil_append,es,List.map_cons,List.map_nil,cInts_eq,cInts,cInt,cWord]at hC⊢
 rw[den_fn t26 _ _ _ rfl]
 simp only[b26]
 simp (maxSteps:=6000000) (disch:=first|omega|assumption|decide +kernel|(simp;done)|(simp;omega)|fail) [run_drawnK,orSlow_none,e_word01,hC]
theorem ex1_dif:difR exT1 2 1 2 2=⟨4,10⟩:=by decide +kernel
theorem ex_worth:worthR exT=(10,0):=by decide +kernel
set_option maxHeartbeats 4000000 in
theorem e_driven(lab s):den T 9 [] lab s=some (.bool true,s):=by
 have h1:=fun lab s=>e_Example01 lab s
 have h2:=fun lab s=>e_Fish exT1 (trapB_copy exT1_ok).short exT1_ok 2 1 lab s
 have e2:fishC exT1 2 1=(⟨4,10⟩,0):=by
  have:=fishC_in exT1_ok exT1_one (i:=2) (c:=1) (by decide) (by decide)
  rw[show((2:Nat):Int)=2 from rfl,show((1:Nat):Int)=1 from rfl,ex1_dif]at this
  exact this
 rw[e2]at h2
 have h3:=fun lab s=>e_ExampleD lab s
 have h4:=fun lab s=>e_Worth exT (doorB_short ex_ok) lab s
 rw[ex_worth]at h4
 clear e2
 generalize exQ1=Q at*
 generalize exT1=X at*
 generalize exT=Y at*
 generalize exO=Z at*
 rw[den_fn t9 _ _ _ rfl]
 simp only[b9]
 simp (maxSteps:=6000000) (disch:=first|omega|assumption|decide +kernel|(simp;done)|(simp;omega)|fail) [run_drawnK,orSlow_none,h1,h2,h3,h4,eqCells]
end Go.Proofs.YtnglkclmplfnpaaGreat

/-
  TopDriven: Sum, lines, inRow, openDoors.
-/
namespace Go.Proofs.YtnglkclmplfnpaaGreat
open Go.Ab
theorem e_Sum_l(l:List Int)(hl:l.length≤1000000)(hb: ∀x:Int,x∈l→0≤x∧x≤1000000)(s:Stk):
 Run T b7l0 [(0, .sl .no 1 (es cInt l)),(3,i64 0),(4,i64 0)] ([]::s)=some (.exit 0,[(0, .sl .no 1 (es cInt l)),(3,i64 ((l).foldl (fun(a x:Int)=>a+x) 0)),(4,i64 l.length),(8, .bool false)],[]::s):=by
 have key:=loop_fold (T:=T) (live:=[0,3,4]) (keep:=[]) (b:=d7l0) (l) (fun k (a:Int)=>0≤a∧a≤1000000*k) (fun(a x:Int)=>a+x) (fun k (a:Int)=>[(0, .sl .no 1 (es cInt l)),(3,i64 a),(4,i64 k)]) (fun k (a:Int)=>[]::s) (fun(a:Int)=>(.exit 0,[(0, .sl .no 1 (es cInt l)),(3,i64 a),(4,i64 l.length),(8, .bool false)],[]::s)) (by simp) ?_ ?_ ?_ 0 (by simp) [(0, .sl .no 1 (es cInt l)),(3,i64 0),(4,i64 0)] ([]::s) (by simp) (by simp)
 ·exact key
 ·intro k a hk hi
  have hx:=hb l[k] (List.getElem_mem hk)
  have hwr:IntKind.i64.wrap (a+l[k])=a+l[k]:=wi _ (by omega) (by omega)
  simp (disch:=first|omega|assumption|decide +kernel|(simp;done)|(simp;omega)|fail) [hk,hwr,wk k (by omega)]
 ·intro k a hk hi
  have hx:=hb l[k] (List.getElem_mem hk)
  omega
 ·intro a hi
  simp
theorem fold_sumI(l:List Int)(a:Int):l.foldl (fun(a x:Int)=>a+x) a=a+l.sum:=by
 induction l generalizing a with
 |nil=>simp
 |cons x l ih=>rw[List.foldl_cons,ih,List.sum_cons,Int.add_assoc]
theorem e_Sum(l:List Int)(hl:l.length≤1000000)(hb: ∀x:Int,x∈l→0≤x∧x≤1000000)(lab s):den T 7 [.sl .no 1 (es cInt l)] lab s=some (i64 l.sum,s):=by
 have key:=e_Sum_l l hl hb s
 rw[fold_sumI,Int.zero_add]at key
 rw[den_fn t7 _ _ _ rfl]
 simp only[b7]
 simp (disch:=first|omega|assumption|decide +kernel|(simp;done)|(simp;omega)|fail) [key]
theorem snocF {α β:Type}(f:α→β): ∀(l:List α) (a:List β),l.foldl (fun a x=>a ++[f x]) a=a ++l.map f
 |[],a=>by simp
 |x::l,a=>by rw[List.foldl_cons,snocF f l];simp
set_option maxHeartbeats 2000000 in
theorem e_lines(l:List (List Int))(hl:l.length≤40)(he: ∀x∈l,x.length≤40)(lab s):den T 15 [.sl .no 1 (es cInts l)] lab s=some (.sl .no 1 (es cInts l),s):=by
 have key:=loop_fold (T:=Go.Proofs.YtnglkclmplfnpaaGreat.T) (live:=[0,3,4]) (keep:=[49]) (b:=d15l0) l (fun k (a:List (List Int))=>a.length=k) (fun a x=>a ++[x])
  (fun k a=>[(0, .sl .no 1 (es cInts l)),(3, .sl (.own s.length 49) 1 (es cInts a)),(4,i64 (k:Nat))]) (fun _ a=>[(49, .tok a.length)]::s)
  (fun a=>(.exit 0,[(0, .sl .no 1 (es cInts l)),(3, .sl (.own s.length 49) 1 (es cInts a)),(4,i64 l.length),(8, .bool false)],[(49, .tok a.length)]::s))
  (by simp) ?_ ?_ ?_ [] (by simp) [(3, .sl (.own s.length 49) 1 []),(0, .sl .no 1 (es cInts l)),(3, .sl .full 1 []),(4,i64 0)] ([(49, .tok 0)]::s) (by simp) (by simp)
 ·rw[snocF (fun x=>x),List.nil_append,List.map_id']at key
  change Run T b15l0 _ _=_ at key
  rw[den_fn t15 _ _ _ rfl]
  simp only[b15]
  simp (maxSteps:=1000000) (disch:=first|omega|assumption|decide +kernel|(simp;done)|(simp;omega)|fail) [key]
 ·intro k a hk hi
  have hk2:(k:Int)<l.length:=by omega
  have hxl:=he _ (List.getElem_mem hk)
  generalize hx:l[k]=x at*
  have e0:es cInts a ++[[.sl .no 1 (es cInt x)]]=es cInts (a ++[x]):=by simp[es]
  by_cases h0:x=[]
  ·subst h0
   simp only[es_nil]at e0
   simp (maxSteps:=1000000) (disch:=first|omega|assumption|decide +kernel|(simp;done)|(simp;omega)|fail) [hk,hk2,hx,e0,appK_full_nil,appK_own1,wk k (by omega)]
  ·simp (maxSteps:=1000000) (disch:=first|omega|assumption|decide +kernel|(simp;done)|(simp;omega)|fail) [hk,hk2,hx,h0,e0,appK_full,appK_own1,wk k (by omega)]
 ·intro k a hk hi
  simp[hi]
 ·intro a hi
  simp
def rowAt(t:DTrap)(i:Nat):Bool:=decide ((t.gates.getD i ⟨0,0,false⟩).a=i)&&decide ((t.gates.getD i ⟨0,0,false⟩).b=i+1)
def inRowB(t:DTrap):Bool:=decide ((t.gates.length:Int)=t.chambers-1)&&allB (rowAt t) (List.range t.gates.length)
set_option maxHeartbeats 2000000 in
theorem e_inRow_l(t:DTrap)(hg:t.gates.length≤40)(s:Stk):
 Run T b6l0 [(1, .ptr s.length 16 0),(3,i64 0)] ([(16, .cell (dV t))]::s)=
  if allB (rowAt t) (List.range t.gates.length)=true then some (.exit 0,[(1, .ptr s.length 16 0),(3,i64 t.gates.length),(15, .bool false)],[(16, .cell (dV t))]::s)
  else some (.ret,[(2, .bool false)],[(16, .cell (dV t))]::s):=by
 refine loop_all (List.range t.gates.length) (rowAt t) (fun k=>[(1, .ptr s.length 16 0),(3,i64 (k:Nat))]) (fun _=>[(16, .cell (dV t))]::s) _ _ (by simp) (by simp) ?_ (by simp) _ _ (by simp) (by simp)
 intro k hk
 simp only[List.length_range]at hk
 rw[List.getElem_range]
 have hk2:(k:Int)<t.gates.length:=by omega
 have eg:t.gates.getD k ⟨0,0,false⟩=t.gates[k]:=by simp[List.getD,hk]
 unfold rowAt
 rw[eg]
 generalize hx:t.gates[k]=g at*
 by_cases h1:g.a=k
 ·by_cases h2:g.b=k+1
  ·simp (maxSteps:=1000000) (disch:=first|omega|assumption|decide +kernel|(simp;done)|(simp;omega)|fail) [hk,hk2,hx,h1,h2,wk k (by omega)]
  ·simp (maxSteps:=1000000) (disch:=first|omega|assumption|decide +kernel|(simp;done)|(simp;omega)|fail) [hk,hk2,hx,h1,h2,wk k (by omega)]
 ·simp (maxSteps:=1000000) (disch:=first|omega|assumption|decide +kernel|(simp;done)|(simp;omega)|fail) [hk,hk2,hx,h1,wk k (by omega)]
set_option maxHeartbeats 2000000 in
theorem e_inRow(t:DTrap)(hg:t.gates.length≤40)(hc:0≤t.chambers∧t.chambers≤1000000)(lab s):den T 6 [.agg (dV t)] lab s=some (.bool (inRowB t),s):=by
 have hl:=e_inRow_l t hg s
 have hw:IntKind.i64.wrap (t.chambers-1)=t.chambers-1:=wi _ (by omega) (by omega)
 unfold inRowB
 by_cases h1:(t.gates.length:Int)=t.chambers-1
 rotate_left
 ·rw[den_fn t6 _ _ _ rfl]
  simp only[b6]
  simp (maxSteps:=1000000) (disch:=first|omega|assumption|decide +kernel|(simp;done)|(simp;omega)|fail) [hw,h1]
 cases h2:allB (rowAt t) (List.range t.gates.length)<;>rw[h2]at hl
 ·rw[den_fn t6 _ _ _ rfl]
  simp only[b6]
  simp (maxSteps:=1000000) (disch:=first|omega|assumption|decide +kernel|(simp;done)|(simp;omega)|fail) [hw,h1,hl]
 ·rw[den_fn t6 _ _ _ rfl]
  simp only[b6]
  simp (maxSteps:=1000000) (disch:=first|omega|assumption|decide +kernel|(simp;done)|(simp;omega)|fail) [hw,h1,hl]
def doorsL(t:DTrap):List Int:=(List.range t.gates.length).foldl (fun a i=>if (t.gates.getD i ⟨0,0,false⟩).op=true then a ++[(i:Int)+1]else a) []
set_option maxHeartbeats 2000000 in
theorem e_openDoors(t:DTrap)(hg:t.gates.length≤40)(lab s):den T 18 [.agg (dV t)] lab s=some (.sl .no 1 (es cInt (doorsL t)),s):=by
 have key:=loop_fold (T:=Go.Proofs.YtnglkclmplfnpaaGreat.T) (live:=[1,3,4]) (keep:=[16,49]) (b:=d18l0) (List.range t.gates.length) (fun k (a:List Int)=>a.length≤k) (fun a i=>if (t.gates.getD i ⟨0,0,false⟩).op=true then a ++[(i:Int)+1]else a)
  (fun k a=>[(1, .ptr s.length 16 0),(3, .sl (.own s.length 49) 1 (es cInt a)),(4,i64 (k:Nat))]) (fun _ a=>[(16, .cell (dV t)),(49, .tok a.length)]::s)
  (fun a=>(.exit 0,[(1, .ptr s.length 16 0),(3, .sl (.own s.length 49) 1 (es cInt a)),(4,i64 t.gates.length),(9, .bool false)],[(16, .cell (dV t)),(49, .tok a.length)]::s))
  (by simp) ?_ ?_ ?_ [] (by simp) [(3, .sl (.own s.length 49) 1 []),(1, .ptr s.length 16 0),(3, .sl .full 1 []),(4,i64 0)] ([(16, .cell (dV t)),(49, .tok 0)]::s) (by simp) (by simp)
 ·change Run T b18l0 _ _=_ at key
  unfold doorsL
  rw[den_fn t18 _ _ _ rfl]
  simp only[b18]
  simp (maxSteps:=1000000) (disch:=first|omega|assumption|decide +kernel|(simp;done)|(simp;omega)|fail) [key]
 ·intro k a hk hi
  simp only[List.length_range]at hk
  rw[List.getElem_range]
  have hk2:(k:Int)<t.gates.length:=by omega
  have eg:t.gates.getD k ⟨0,0,false⟩=t.gates[k]:=by simp[List.getD,hk]
  rw[eg]
  generalize hx:t.gates[k]=g at*
  have e0:es cInt a ++[[i64 ((k:Int)+1)]]=es cInt (a ++[(k:Int)+1]):=by simp[es]
  cases h0:g.op
  ·simp (maxSteps:=1000000) (disch:=first|omega|assumption|decide +kernel|(simp;done)|(simp;omega)|fail) [hk,hk2,hx,h0,wk k (by omega)]
  ·simp (maxSteps:=1000000) (disch:=first|omega|assumption|decide +kernel|(simp;done)|(simp;omega)|fail) [hk,hk2,hx,h0,e0,appK_own1,wk k (by omega)]
 ·intro k a hk hi
  split
  ·simp only[List.length_append,List.length_singleton];omega
  ·omega
 ·intro a hi
  simp
end Go.Proofs.YtnglkclmplfnpaaGreat

/-
  TopDriven: Whole.
-/
namespace Go.Proofs.YtnglkclmplfnpaaGreat
open Go.Ab
theorem node_root(C i:Nat):nodeN C i C=0:=by simp[nodeN]
def wholeC(t:CTrap)(i:Int):CSp×Int:=if openT t (wiB i 0 (t.times-1))=0 then(difR t i.toNat 0 i.toNat t.C,0)else(⟨0,0⟩,openT t (wiB i 0 (t.times-1)))
set_option maxHeartbeats 1000000 in
theorem e_Whole(t:CTrap)(hs:ShortT t)(hB:trapB t=true)(i:Int)(lab s):den T 21 [.agg (vT t),i64 i] lab s=some (.tup [.agg [i64 (wholeC t i).1.lo,i64 (wholeC t i).1.hi],i64 (wholeC t i).2],s):=by
 have hok:=trapB_ok hB
 have htt:=hok.tt
 have w1:IntKind.i64.wrap (t.times-1)=t.times-1:=wi _ (by omega) (by omega)
 unfold wholeC
 rw[den_fn t21 _ _ _ rfl]
 simp only[b21]
 by_cases h:openT t (wiB i 0 (t.times-1))=0
 ·obtain⟨k1,k2,k3⟩:=openT_ok h
  have ho:=fun(F:Ab.Loc) lab hF=>e_open_ok t hs _ h F s lab hF
  rw[k2]at ho
  have hb:=wiB_iff.1 k2
  have e1:t.C=t.chambers.toNat:=rfl
  have e2:t.T=t.times.toNat:=rfl
  have hcc:=hok.cc
  obtain⟨i,rfl⟩: ∃n:Nat,i=n:=⟨i.toNat,by omega⟩
  have n2:=fun(F:Ab.Loc) (hF:Loc.get F 240=some (.cell (trapV t (setB t)))) lab=>e_nodeI t (setB t) hok s.length 240 i 0 (by omega) (Nat.zero_le _) i 0 rfl rfl (F::s) (by simp) (by simp[hF]) lab
  have hb:=fun(F:Ab.Loc) (hF:Loc.get F 240=some (.cell (trapV t (setB t)))) lab=>e_betw t (nodeN t.C i t.C) (nodeN t.C i 0) (node_lt hok (by omega) (Nat.le_refl _)) (node_lt hok (by omega) (Nat.zero_le _)) s.length 240 (setB t) (setB_mag hok) (F::s) (by simp) (by simp[hF]) lab
  rw[betw_eq hok k3 (i:=i) (c:=0) (j:=i) (d:=t.C) (by omega) (Nat.zero_le _) (by omega) (Nat.le_refl _)]at hb
  rw[if_pos h]
  simp only[node_root,show((0:Nat):Int)=0 from rfl]at hb
  simp only[Int.toNat_natCast]
  generalize difR t i 0 i t.C=b at*
  generalize setB t=B at*
  generalize nodeN t.C i 0=y at*
  simp (maxSteps:=1000000) (disch:=first|omega|assumption|decide +kernel|(simp;done)|(simp;omega)|fail) [orSlow_none,w1,k2,ho,n2,hb]
 ·have ho:=fun(F:Ab.Loc) lab=>e_open_no t hs _ h F s lab
  rw[if_neg h]
  generalize hp:wiB i 0 (t.times-1)=p at*
  simp (maxSteps:=1000000) (disch:=first|omega|assumption|decide +kernel|(simp;done)|(simp;omega)|fail) [orSlow_none,w1,hp,ho,h]
end Go.Proofs.YtnglkclmplfnpaaGreat

/-
  TopDriven: the fish in each chamber.
-/
namespace Go.Proofs.YtnglkclmplfnpaaGreat
open Go.Ab
def chamS(a:List Int)(g:DGroup):List Int:=a.set g.pos.toNat (a.getD g.pos.toNat 0+g.fish)
def chamL(t:DTrap):List Int:=t.groups.foldl chamS (List.replicate t.chambers.toNat 0)
theorem chamS_len(a g):(chamS a g).length=a.length:=by simp[chamS]
set_option maxHeartbeats 2000000 in
theorem e_inCh_l(t:DTrap)(h:DoorOk t)(s:Stk):
 Run T b8l0 [(1, .ptr s.length 16 0),(3, .asl s.length 112 1 t.chambers.toNat 0 t.chambers.toNat),(4,i64 0)] ([(16, .cell (dV t)),(112, .arr 1 (es cInt (List.replicate t.chambers.toNat 0)))]::s)=some (.exit 0,[(1, .ptr s.length 16 0),(3, .asl s.length 112 1 t.chambers.toNat 0 t.chambers.toNat),(4,i64 ((t.groups).length:Nat)),(12, .bool false)],[(16, .cell (dV t)),(112, .arr 1 (es cInt ((t.groups).foldl (chamS) (List.replicate t.chambers.toNat 0))))]::s):=by
 have key:=loop_fold (T:=T) (live:=[1,3,4]) (keep:=[16,112]) (b:=d8l0) (t.groups) (fun k a=>a.length=t.chambers.toNat∧ ∀x∈a,0≤x∧x≤99*((k:Nat):Int)) (chamS) (fun k (a:List Int)=>[(1, .ptr s.length 16 0),(3, .asl s.length 112 1 t.chambers.toNat 0 t.chambers.toNat),(4,i64 (k:Nat))]) (fun k (a:List Int)=>[(16, .cell (dV t)),(112, .arr 1 (es cInt a))]::s) (fun(a:List Int)=>(.exit 0,[(1, .ptr s.length 16 0),(3, .asl s.length 112 1 t.chambers.toNat 0 t.chambers.toNat),(4,i64 ((t.groups).length:Nat)),(12, .bool false)],[(16, .cell (dV t)),(112, .arr 1 (es cInt a))]::s)) (by simp) ?_ ?_ ?_ (List.replicate t.chambers.toNat 0) (⟨by simp,fun x hx=>by obtain⟨_,rfl⟩:=List.mem_replicate.1 hx;omega⟩) [(1, .ptr s.length 16 0),(3, .asl s.length 112 1 t.chambers.toNat 0 t.chambers.toNat),(4,i64 0)] ([(16, .cell (dV t)),(112, .arr 1 (es cInt (List.replicate t.chambers.toNat 0)))]::s) (by simp) (by simp)
 ·exact key
 ·intro k a hk hi
  obtain⟨hi1,hi2⟩:=hi
  have hol:=h.ol
  have hch:=h.ch
  have hgr:=h.groups _ (List.getElem_mem hk)
  have hk2:(k:Int)<t.groups.length:=by omega
  unfold chamS
  generalize hx:t.groups[k]=g at*
  obtain⟨p,f⟩:=g
  simp only at hgr⊢
  obtain⟨q,rfl⟩: ∃n:Nat,p=n:=⟨p.toNat,by omega⟩
  simp only[Int.toNat_natCast]
  have hq:q<a.length:=by omega
  have hq1:q<t.chambers.toNat:=by omega
  have hq2:(q:Int)<t.chambers.toNat:=by omega
  have hv:=hi2 _ (List.getElem_mem hq)
  have eg:a.getD q 0=a[q]:=by simp[List.getD,hq]
  rw[eg]
  generalize hy:a[q]=v at*
  have w1:IntKind.i64.wrap (v+f)=v+f:=wi _ (by omega) (by omega)
  have hset: ∀x:Int,(es cInt a).set q [i64 x]=es cInt (a.set q x):=fun x=>by simp[es,List.map_set]
  generalize t.chambers.toNat=C at*
  simp (maxSteps:=1000000) (disch:=first|omega|assumption|decide +kernel|(simp;done)|(simp;omega)|fail) [run_drawnK,hk,hk2,hx,hq,hq1,hq2,hi1,hy,w1,hset,wk k (by omega)]
 ·intro k a hk hi
  obtain⟨hi1,hi2⟩:=hi
  have hgr:=h.groups _ (List.getElem_mem hk)
  refine⟨by rw[chamS_len];exact hi1,fun x hx=> ?_⟩
  unfold chamS at hx
  rcases List.mem_or_eq_of_mem_set hx with hx|rfl
  ·have:=hi2 x hx;omega
  ·by_cases hq:t.groups[k].pos.toNat<a.length
   ·have:=hi2 _ (List.getElem_mem hq)
    rw[show a.getD t.groups[k].pos.toNat 0=a[t.groups[k].pos.toNat]by simp[List.getD,hq]]
    omega
   ·rw[show a.getD t.groups[k].pos.toNat 0=0 by simp[List.getD,hq]]
    omega
 ·intro a hi
  simp
theorem foldC_len: ∀(l:List DGroup) (a:List Int),(l.foldl chamS a).length=a.length
 |[],_=>rfl
 |g::l,a=>by rw[List.foldl_cons,foldC_len l,chamS_len]
@[simp] theorem chamL_len(t:DTrap):(chamL t).length=t.chambers.toNat:=by unfold chamL;rw[foldC_len];simp
set_option maxHeartbeats 2000000 in
theorem e_inChambers(t:DTrap)(h:DoorOk t)(lab s):den T 8 [.agg (dV t)] lab s=some (.sl .no 1 (es cInt (chamL t)),s):=by
 have key:=e_inCh_l t h s
 have hch:=h.ch
 have e1:((t.chambers.toNat:Nat):Int)=t.chambers:=by omega
 have er:List.replicate t.chambers.toNat [i64 0]=es cInt (List.replicate t.chambers.toNat 0):=by simp[es]
 have hR:=chamL_len t
 rw[show t.groups.foldl chamS (List.replicate t.chambers.toNat 0)=chamL t from rfl]at key
 generalize chamL t=R at*
 have c1:0≤t.chambers:=by omega
 have c2:t.chambers<140737488355328:=by omega
 have c3:t.chambers*8≤140737488355328:=by omega
 have c4:t.chambers≤(R.length:Int):=by omega
 have c5:t.chambers.toNat=R.length:=hR.symm
 rw[c5]at er key
 rw[den_fn t8 _ _ _ rfl]
 simp only[b8]
 simp (maxSteps:=1000000) (disch:=first|omega|assumption|decide +kernel|(simp;done)|(simp;omega)|fail) [run_drawnK,er,key,c1,c2,c3,c4,c5]
end Go.Proofs.YtnglkclmplfnpaaGreat

/-
  TopDriven: a range over a list from its end.
-/
namespace Go.Proofs.YtnglkclmplfnpaaGreat
open Go.Ab
theorem e_Backward(t:List Int)(lab:Nat)(loc:Ab.Loc)(s:Stk)(h:loc.get lab=none):den T 63 [.sl .no 1 (es cInt t)] lab (loc::s)=some (.fn 78 [] [.ptr s.length lab 0],loc.put lab (.cell [.sl .no 1 (es cInt t)])::s):=by
 rw[den_fn t63 _ _ _ rfl]
 simp only[b63]
 simp (maxSteps:=1000000) (disch:=first|omega|assumption|decide +kernel|(simp;done)|(simp;omega)|fail) [h,dedup,newLab,idxOf]
set_option maxHeartbeats 1000000 in
theorem e_back1 {bl:Nat}(t:List Int)(hn:t.length<4611686018427387904) {σ:Type}(l:Nat)(Sf:Stk)(Lf:σ→Ab.Loc)(I:Nat→σ→Prop)(Y:σ→Int×Nat→σ×Bool)(h480: ∀a,Loc.get (Lf a) bl=some (.cell [.sl .no 1 (es cInt t)]))
 (hy: ∀k a (hk:k<t.length),I k a→(∀lab,denV T (.yld Sf.length l) [i64 ((t.length-1-k:Nat):Int),i64 t[t.length-1-k]] lab ([]::Lf a::Sf)=some (.bool (Y a (t[t.length-1-k],t.length-1-k)).2,[]::Lf (Y a (t[t.length-1-k],t.length-1-k)).1::Sf))∧
   ((Y a (t[t.length-1-k],t.length-1-k)).2=true→I (k+1) (Y a (t[t.length-1-k],t.length-1-k)).1)) (a:σ) (h0:I 0 a) (lab:Nat):
 den T 78 [.yld Sf.length l, .ptr Sf.length bl 0] lab (Lf a::Sf)=some (.tup [],Lf (foldB Y t.zipIdx.reverse a).1::Sf):=by
 have hel: ∀k (hk:k<t.zipIdx.reverse.length),t.zipIdx.reverse[k]=(t[t.length-1-k]'(by simp at hk;omega),t.length-1-k):=by
  intro k hk
  simp only[List.length_reverse,List.length_zipIdx]at hk
  simp only[List.getElem_reverse,List.getElem_zipIdx,List.length_zipIdx,Nat.zero_add]
 have key:=loop_list_e (T:=T) (live:=[0,1,3]) (keep:=[]) (b:=d78l0) (γ:=Nat) t.zipIdx.reverse I (fun k _=>[(0, .yld Sf.length l),(1, .ptr Sf.length bl 0),(3,i64 ((t.length:Int)-1-k))]) (fun _ a=>[]::Lf a::Sf) Y (fun(g:Nat) a=>(.ret,[(0, .yld Sf.length l),(1, .ptr Sf.length bl 0),(3,i64 ((t.length:Int)-1-g)),(18, .bool true)],[]::Lf a::Sf))
  (fun a=>(.exit 0,[(0, .yld Sf.length l),(1, .ptr Sf.length bl 0),(3,i64 (-1)),(8, .bool false)],[]::Lf a::Sf)) (by simp) (by simp) ?_ ?_ a h0 [(0, .yld Sf.length l),(1, .ptr Sf.length bl 0),(3,i64 ((t.length:Int)-1))] ([]::Lf a::Sf) (by simp) (by simp)
 ·obtain⟨_,hg⟩:=key
  change Run T b78l0 _ _=_ at hg
  have w1:IntKind.i64.wrap ((t.length:Int)-1)=(t.length:Int)-1:=wi _ (by omega) (by omega)
  generalize foldB Y t.zipIdx.reverse a=q at hg⊢
  obtain⟨a',bb⟩:=q
  rw[den_fn t78 _ _ _ rfl]
  simp only[b78]
  cases bb<;>simp (maxSteps:=1000000) (disch:=first|omega|assumption|decide +kernel|(simp;done)|(simp;omega)|fail) [h480,w1,hg]
 ·intro k a hk hi
  have hk':k<t.length:=by simpa using hk
  obtain⟨h1,h2⟩:=hy k a hk' hi
  rw[hel k hk]
  have q1:(k:Int)≤(t.length:Int)-1:=by omega
  have q2:((t.length:Int)-1-k).toNat=t.length-1-k:=by omega
  have q3:((t.length-1-k:Nat):Int)=(t.length:Int)-1-k:=by omega
  have q4:IntKind.i64.wrap ((t.length:Int)-1-k-1)=(t.length:Int)-1-((k:Int)+1):=by rw[wi _ (by omega) (by omega)];omega
  have q5:t[t.length-1-k]? =some t[t.length-1-k]:=List.getElem?_eq_getElem _
  rw[q3]at h1
  skip
  generalize Y a (t[t.length-1-k],t.length-1-k)=y at h1 h2⊢
  obtain⟨a',bb⟩:=y
  refine⟨fun hb=>⟨?_,h2 hb⟩,fun hb=>⟨k,?_⟩⟩
  ·dsimp only at hb h1⊢
   subst hb
   simp (maxSteps:=1000000) (disch:=first|omega|assumption|decide +kernel|(simp;done)|(simp;omega)|fail) [h480,h1,q1,q2,q4,q5]
  ·dsimp only at hb h1⊢
   subst hb
   simp (maxSteps:=1000000) (disch:=first|omega|assumption|decide +kernel|(simp;done)|(simp;omega)|fail) [h480,h1,q1,q2,q4,q5]
 ·intro a hi
  have q1:(t.length:Int)-1-((t.zipIdx.reverse.length:Nat):Int)= -1:=by simp;omega
  rw[q1]
  simp
end Go.Proofs.YtnglkclmplfnpaaGreat

/-
  TopDriven: fish that are driven on: the plain law of one turn.
-/
namespace Go.Proofs.YtnglkclmplfnpaaGreat
open Go.Ab
def behG(gs:List DGroup)(d:Nat):Int:=(gs.map fun g=>if (d:Int)≤g.pos then g.fish else 0).sum
theorem behG_cons(g:DGroup)(gs:List DGroup)(d:Nat):behG (g::gs) d=(if (d:Int)≤g.pos then g.fish else 0)+behG gs d:=by simp[behG]
theorem drop_set_sum: ∀(a:List Int) (p d:Nat) (f:Int),p<a.length→behindL (a.set p (a.getD p 0+f)) d=behindL a d+if d≤p then f else 0
 |x::a,0,0,f,_=>by simp[behindL];omega
 |x::a,0,d+1,f,_=>by simp[behindL]
 |x::a,p+1,0,f,h=>by
   have:=drop_set_sum a p 0 f (by simpa using h)
   simp only[behindL,List.drop_zero,Nat.zero_le,if_true]at this
   simp only[behindL,List.set_cons_succ,List.drop_zero,List.sum_cons,List.getD_cons_succ,this,Nat.zero_le,if_true];omega
 |x::a,p+1,d+1,f,h=>by
   have:=drop_set_sum a p d f (by simpa using h)
   simpa [behindL,List.set_cons_succ,List.drop_succ_cons,List.getD_cons_succ]using this
theorem behind_fold: ∀(gs:List DGroup) (a:List Int) (d:Nat),(∀g∈gs,0≤g.pos∧g.pos<a.length)→behindL (gs.foldl chamS a) d=behindL a d+behG gs d
 |[],a,d,_=>by simp[behG]
 |g::gs,a,d,h=>by
   have hg:=h g (by simp)
   rw[List.foldl_cons,behind_fold gs (chamS a g) d fun x hx=>by rw[chamS_len];exact h x (by simp[hx])]
   unfold chamS
   rw[drop_set_sum a _ d _ (by omega),behG_cons]
   by_cases e:(d:Int)≤g.pos
   ·rw[if_pos e,if_pos (by omega)];omega
   ·rw[if_neg e,if_neg (by omega)];omega
theorem behind_cham {t:DTrap}(h:DoorOk t)(d:Nat):behindL (chamL t) d=behG t.groups d:=by
 have hch:=h.ch
 unfold chamL
 rw[behind_fold t.groups _ d fun g hg=>by have:=h.groups g hg;simp only[List.length_replicate];omega]
 simp[behindL,List.drop_replicate]
theorem cham_nonneg {t:DTrap}(h:DoorOk t): ∀x∈chamL t,0≤x:=by
 have key: ∀(gs:List DGroup) (a:List Int),(∀g∈gs,0≤g.fish)→(∀x∈a,0≤x)→ ∀x∈gs.foldl chamS a,0≤x:=by
  intro gs
  induction gs with
  |nil=>intro a _ h;exact h
  |cons g gs ih=>
    intro a hg ha
    rw[List.foldl_cons]
    refine ih _ (fun x hx=>hg x (by simp[hx])) fun x hx=> ?_
    unfold chamS at hx
    rcases List.mem_or_eq_of_mem_set hx with hx|rfl
    ·exact ha x hx
    ·have h1:=hg g (by simp)
     by_cases hq:g.pos.toNat<a.length
     ·have h2:=ha _ (List.getElem_mem hq)
      rw[show a.getD g.pos.toNat 0=a[g.pos.toNat]by simp[List.getD,hq]]
      omega
     ·rw[show a.getD g.pos.toNat 0=0 by simp[List.getD,hq]]
      omega
 exact key _ _ (fun g hg=>(h.groups g hg).2.1) fun x hx=>by obtain⟨_,rfl⟩:=List.mem_replicate.1 hx;omega
theorem beh_moved(m:List Int)(d:Nat): ∀(i:Nat) (gs:List DGroup),(∀g∈gs,0≤g.fish)→i+gs.length≤m.length→(∀k (h:k<gs.length),gs[k].pos≤m.getD (i+k) 0)→
 behG gs d≤behG (movedG m i gs) d∧(behG gs d<behG (movedG m i gs) d→ ∃k,∃h:k<gs.length,gs[k].pos<d∧(d:Int)≤m.getD (i+k) 0)
 |_,[],_,_,_=>⟨by simp[movedG],fun h=>by simp[movedG]at h⟩
 |i,g::gs,hf,hl,hm=>by
   simp only[List.length_cons]at hl
   have h0:=hm 0 (by simp)
   obtain⟨h1,h2⟩:=beh_moved m d (i+1) gs (fun x hx=>hf x (by simp[hx])) (by omega) fun k hk=>by
    have:=hm (k+1) (by simp;omega)
    rw[List.getElem_cons_succ]at this
    rw[show i+1+k=i+(k+1)by omega];exact this
   have hg:=hf g (by simp)
   simp only[List.getElem_cons_zero,Nat.add_zero]at h0
   simp only[movedG,behG_cons,if_pos (show i<m.length by omega)]
   refine⟨?_,fun hlt=> ?_⟩
   ·split<;>split<;>omega
   ·by_cases c1:g.pos<d∧(d:Int)≤m.getD i 0
    ·exact⟨0,by simp,c1⟩
    ·have hlt2:behG gs d<behG (movedG m (i+1) gs) d:=by
      split at hlt<;>split at hlt<;>omega
     obtain⟨k,hk,a,b⟩:=h2 hlt2
     exact⟨k+1,by simp;omega,by simpa using a,by rw[show i+(k+1)=i+1+k by omega];exact b⟩
theorem fold_keep {α β:Type}(p:α→Bool)(f:α→β): ∀(l:List α) (a:List β),l.foldl (fun a i=>if p i=true then a ++[f i]else a) a=a ++(l.filter p).map f
 |[],a=>by simp
 |x::l,a=>by
   rw[List.foldl_cons,fold_keep p f l]
   cases h:p x<;>simp[h]
theorem doorsL_eq(t:DTrap):doorsL t=((List.range t.gates.length).filter fun i=>(t.gates.getD i ⟨0,0,false⟩).op).map fun(i:Nat)=>(i:Int)+1:=by
 unfold doorsL
 rw[fold_keep (fun i=>(t.gates.getD i ⟨0,0,false⟩).op) (fun(i:Nat)=>(i:Int)+1)];rfl
theorem mem_doorsL {t:DTrap} {x:Int}:x∈doorsL t↔ ∃i:Nat,i<t.gates.length∧(t.gates.getD i ⟨0,0,false⟩).op=true∧x=(i:Int)+1:=by
 rw[doorsL_eq]
 simp only[List.mem_map,List.mem_filter,List.mem_range]
 constructor
 ·rintro⟨i,⟨h1,h2⟩,rfl⟩;exact⟨i,h1,h2,rfl⟩
 ·rintro⟨i,h1,h2,rfl⟩;exact⟨i,⟨h1,h2⟩,rfl⟩
theorem doorsL_rise(t:DTrap):(doorsL t).Pairwise (· < ·):=by
 rw[doorsL_eq,List.pairwise_map]
 refine(List.Pairwise.filter _ (List.pairwise_lt_range)).imp ?_
 intro a b h;omega
structure RowOk(t:DTrap):Prop where
 len:(t.gates.length:Int)=t.chambers-1
 at_: ∀i (h:i<t.gates.length),t.gates[i].a=i∧t.gates[i].b=(i:Int)+1
theorem inRow_iff {t:DTrap}:inRowB t=true↔RowOk t:=by
 simp only[inRowB,Bool.and_eq_true,decide_eq_true_eq,allB,List.all_eq_true,List.mem_range,rowAt]
 constructor
 ·rintro⟨h1,h2⟩
  exact⟨h1,fun i hi=>by have:=h2 i hi;simpa [List.getD,hi]using this⟩
 ·rintro⟨h1,h2⟩
  exact⟨h1,fun i hi=>by have:=h2 i hi;simpa [List.getD,hi]using this⟩
theorem row_changed {t:DTrap}(h:RowOk t)(c:List Int):RowOk (changedT t c):=by
 have hl:(changedT t c).gates.length=t.gates.length:=by simp[changedT]
 refine⟨by rw[hl];exact h.len,fun i hi=> ?_⟩
 have hi2:i<t.gates.length:=by omega
 have e:(changedT t c).gates[i]? =_:=flipS_get c 0 t.gates i
 rw[List.getElem?_eq_getElem hi,List.getElem?_eq_getElem hi2,Option.map_some,Option.some.injEq]at e
 rw[e]
 have:=h.at_ i hi2
 split<;>exact this
theorem mem_ways {n:Nat} {gs:List DGate} {p x:Int}(h:x∈waysS n gs p):x=p∨wayB gs p x=true:=by
 simp only[waysS]at h
 split at h
 ·exact .inl (by simpa using h)
 ·exact .inr (List.mem_filter.1 h).2
theorem turn_law {t:DTrap}(h:DoorOk t)(hr:RowOk t) {c m:List Int}(ha:areB (changedT t c) m=true)(hb: ∀k (hk:k<t.groups.length),t.groups[k].pos≤m.getD k 0)(d:Nat):
 behG t.groups d≤behG (behindT t c m).groups d∧(behG t.groups d<behG (behindT t c m).groups d→(d:Int)∈doorsL (changedT t c)):=by
 have hml:=movesT_len (t:=t) (mem_movesT.2 ha)
 obtain⟨h1,h2⟩:=beh_moved m d 0 t.groups (fun g hg=>(h.groups g hg).2.1) (by omega) fun k hk=>by rw[Nat.zero_add];exact hb k hk
 refine⟨h1,fun hlt=> ?_⟩
 obtain⟨k,hk,a,b⟩:=h2 hlt
 rw[Nat.zero_add]at b
 have hr2:=row_changed hr c
 simp only[areB,Bool.and_eq_true,allB,List.all_eq_true,List.mem_range]at ha
 have hw:=ha.2 k (by omega)
 simp only[areAt,show(changedT t c).groups=t.groups from rfl,List.getElem?_eq_getElem hk,anyB,List.any_eq_true,decide_eq_true_eq]at hw
 obtain⟨x,hx,rfl⟩:=hw
 rcases mem_ways hx with e|hw
 ·omega
 ·simp only[wayB,List.any_eq_true,Bool.and_eq_true,Bool.or_eq_true,decide_eq_true_eq]at hw
  obtain⟨g,hg,ho,hw⟩:=hw
  obtain⟨i,hi,rfl⟩:=List.getElem_of_mem hg
  have hri:=hr2.at_ i hi
  refine mem_doorsL.2 ⟨i,hi,?_,?_⟩
  ·simpa [List.getD,hi]using ho
  ·omega
end Go.Proofs.YtnglkclmplfnpaaGreat

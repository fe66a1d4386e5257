/-
  The program's Check of layers 5 and 13.
-/
import Derived.Test.YtoedpegjoccnlaaGreatEq3
import Derived.Test.YtoedpegjoccnlaaGreatAb7
import Derived.Test.YtoedpegjoccnlaaGreatEq1
set_option linter.unusedSimpArgs false
set_option linter.unusedVariables false
namespace Go.Proofs.YtoedpegjoccnlaaGreat.A
open Go.Ab
@[simp] theorem e_within05p(n lo hi:Int)(lab s):den T 108 [i64 n,i64 lo,i64 hi] lab s=some (.bool (wiB n lo hi),s):=by
 rw[den_fn t108 _ _ _ rfl]
 simp only[b108]
 by_cases h:lo≤n<;>simp[h,wiB]
theorem spanOk_within {x y m:Int}:spanOk ⟨x,y⟩ m=(wiB x 0 y&&decide (y≤m)):=by
 rw[Bool.eq_iff_iff,spanOk_iff];simp[wiB];omega
theorem foldO_sums(p:Sp→Bool)(l:List Sp)(a:Int×Int):foldO (fun a x=>if p x=true then some (a.1+x.lo,a.2+x.hi)else none) l a=sums p l a:=by
 induction l generalizing a with
 |nil=>rfl
 |cons x r ih=>
   by_cases h:p x=true
   ·simp only[foldO,sums,h,if_true,ih]
   ·simp only[foldO,sums,h,Bool.false_eq_true,if_false]
theorem e_Check05p_l0(n0:Int)(n1:Int)(n2:List Sp)(n3:List Boat)(s:Stk)(hl:n2.length≤4):
 ∃g:Ab.Loc,Run T b88l0 [(1, .ptr s.length 16 0),(3,i64 0),(4,i64 0),(36, .sl .no 2 (es cSp n2)),(37,i64 n2.length),(38,i64 0)] ([(16, .cell [i64 n0,i64 n1, .sl .no 2 (es cSp n2), .sl .no 2 (es cBoat n3)])]::s)=
  if allB (spanOk · 12) n2=true then some (.exit 0,[(1, .ptr s.length 16 0),(3,i64 (lowSum n2)),(4,i64 (highSum n2)),(36, .sl .no 2 (es cSp n2)),(37,i64 n2.length),(38,i64 n2.length),(39, .bool false)],[(16, .cell [i64 n0,i64 n1, .sl .no 2 (es cSp n2), .sl .no 2 (es cBoat n3)])]::s)
  else some (.ret,[(2,i64 50)],g::s):=by
 have key:=loop_list_g (T:=T) (live:=[1,3,4,36,37,38]) (keep:=[16,128,240,1024,1200,1280]) n2 (fun k (a:Int×Int)=>0≤a.1∧a.1≤12*k∧0≤a.2∧a.2≤12*k) (fun k a=>[(1, .ptr s.length 16 0),(3,i64 a.1),(4,i64 a.2),(36, .sl .no 2 (es cSp n2)),(37,i64 n2.length),(38,i64 k)]) (fun _ _=>[(16, .cell [i64 n0,i64 n1, .sl .no 2 (es cSp n2), .sl .no 2 (es cBoat n3)])]::s)
  (fun a x=>if spanOk x 12=true then some (a.1+x.lo,a.2+x.hi)else none) (fun g:Ab.Loc=>(.ret,[(2,i64 50)],g::s)) (fun a=>(.exit 0,[(1, .ptr s.length 16 0),(3,i64 a.1),(4,i64 a.2),(36, .sl .no 2 (es cSp n2)),(37,i64 n2.length),(38,i64 n2.length),(39, .bool false)],[(16, .cell [i64 n0,i64 n1, .sl .no 2 (es cSp n2), .sl .no 2 (es cBoat n3)])]::s))
  (by simp) (by simp) (b:=d88l0) ?_ ?_ (0,0) (by simp) [(1, .ptr s.length 16 0),(3,i64 0),(4,i64 0),(36, .sl .no 2 (es cSp n2)),(37,i64 n2.length),(38,i64 0)] ([(16, .cell [i64 n0,i64 n1, .sl .no 2 (es cSp n2), .sl .no 2 (es cBoat n3)])]::s) (by simp) (by simp)
 ·obtain⟨g,hg⟩:=key
  refine⟨g,hg.trans ?_⟩
  rw[foldO_sums,sums_eq]
  cases allB (spanOk · 12) n2<;>simp
 ·intro k a hk hi
  refine⟨fun a' ha=> ?_,fun ha=> ?_⟩
  ·split at ha
   ·rename_i h0
    obtain⟨h1,h2,h3⟩:=spanOk_iff.1 h0
    cases ha
    refine⟨?_,by simp only;omega⟩
    have c1:wiB n2[k].lo 0 n2[k].hi=true:=within_iff.2 ⟨h1,h2⟩
    have c2: ¬12<n2[k].hi:=by omega
    simp (disch:=first|omega|assumption|decide +kernel|(simp;done)|(simp;omega)|fail) [hk,c1,c2,wk k (by omega),wi]
   ·cases ha
  ·split at ha
   ·cases ha
   ·rename_i h0
    refine⟨[(16, .cell [i64 n0,i64 n1, .sl .no 2 (es cSp n2), .sl .no 2 (es cBoat n3)]),(96, .cell (cSp n2[k]))],?_⟩
    cases c1:wiB n2[k].lo 0 n2[k].hi
    ·simp (disch:=first|omega|assumption|decide +kernel|(simp;done)|(simp;omega)|fail) [hk,c1]
    ·have c2:12<n2[k].hi:=by have:=within_iff.1 c1;rw[spanOk_iff]at h0;omega
     simp (disch:=first|omega|assumption|decide +kernel|(simp;done)|(simp;omega)|fail) [hk,c1,c2]
 ·intro a hi
  simp
theorem e_Check05p_l1(n0:Int)(n1:Int)(n2:List Sp)(n3:List Boat)(s:Stk)(hl:n3.length<4611686018427387904):
 ∃g:Ab.Loc,Run T b88l1 [(67, .sl .no 2 (es cBoat n3)),(68,i64 n3.length),(69,i64 0)] ([(16, .cell [i64 n0,i64 n1, .sl .no 2 (es cSp n2), .sl .no 2 (es cBoat n3)])]::s)=if allB boatOk n3=true then some (.exit 2,[(67, .sl .no 2 (es cBoat n3)),(68,i64 n3.length),(69,i64 n3.length),(70, .bool false)],([(16, .cell [i64 n0,i64 n1, .sl .no 2 (es cSp n2), .sl .no 2 (es cBoat n3)])]::s))else some (.ret,[(2,i64 50)],(g::s)):=by
 refine loop_all_g n3 boatOk (fun k=>[(67, .sl .no 2 (es cBoat n3)),(68,i64 n3.length),(69,i64 k)]) (fun _=>([(16, .cell [i64 n0,i64 n1, .sl .no 2 (es cSp n2), .sl .no 2 (es cBoat n3)])]::s)) (fun g=>(.ret,[(2,i64 50)],(g::s))) _ (by simp) (by simp) ?_ (by simp) _ _ (by simp) (by simp)
 intro k hk
 cases h0:wiB (n3[k]).carry 0 999
 ·refine⟨[(16, .cell [i64 n0,i64 n1, .sl .no 2 (es cSp n2), .sl .no 2 (es cBoat n3)]),(128, .cell (cBoat n3[k]))],?_⟩
  simp (disch:=first|omega|assumption|decide +kernel|(simp;done)|(simp;omega)|fail) [hk,h0,wk k (by omega),boatOk]
 cases h1:wiB (n3[k]).pence 0 99
 ·refine⟨[(16, .cell [i64 n0,i64 n1, .sl .no 2 (es cSp n2), .sl .no 2 (es cBoat n3)]),(128, .cell (cBoat n3[k]))],?_⟩
  simp (disch:=first|omega|assumption|decide +kernel|(simp;done)|(simp;omega)|fail) [hk,h0,h1,wk k (by omega),boatOk]
 refine⟨[],?_⟩
 simp (disch:=first|omega|assumption|decide +kernel|(simp;done)|(simp;omega)|fail) [hk,h0,h1,wk k (by omega),boatOk]
@[simp] theorem e_Check05p(n0:Int)(n1:Int)(n2:List Sp)(n3:List Boat)(lab s):den T 88 [.agg [i64 n0,i64 n1, .sl .no 2 (es cSp n2), .sl .no 2 (es cBoat n3)]] lab s=some (i64 (if seaOk (⟨⟨n0,n1⟩,n2,n3⟩:Sea)=true then 0 else 50),s):=by
 rw[den_fn t88 _ _ _ rfl]
 simp only[b88]
 rw[show seaOk (⟨⟨n0,n1⟩,n2,n3⟩:Sea)=(wiB n0 0 n1&&decide (n1≤2000)&&decide ((n2.length:Int)≤4)&&decide ((n3.length:Int)≤6)&&allB (spanOk · 12) n2&&(decide (lowSum n2≤12)&&decide (12≤highSum n2))&&allB boatOk n3)by
  simp only[seaOk,spanOk_within];cases wiB n0 0 n1<;>cases allB boatOk n3<;>cases allB (spanOk · 12) n2<;>simp[Bool.and_assoc]]
 cases q0:wiB n0 0 n1
 ·simp (disch:=first|omega|assumption|decide +kernel|(simp;done)|(simp;omega)|fail) [q0]
 by_cases q1:2000<n1
 ·simp (disch:=first|omega|assumption|decide +kernel|(simp;done)|(simp;omega)|fail) [q0,q1];omega
 by_cases q2:(4:Int)<n2.length
 ·simp (disch:=first|omega|assumption|decide +kernel|(simp;done)|(simp;omega)|fail) [q0,q1,q2];omega
 by_cases q3:(6:Int)<n3.length
 ·simp (disch:=first|omega|assumption|decide +kernel|(simp;done)|(simp;omega)|fail) [q0,q1,q2,q3];omega
 obtain⟨g,hg⟩:=e_Check05p_l0 n0 n1 n2 n3 s (by omega)
 obtain⟨g',hg'⟩:=e_Check05p_l1 n0 n1 n2 n3 s (by omega)
 have d1:n1≤2000:=by omega
 have d2:(n2.length:Int)≤4:=by omega
 have d3:(n3.length:Int)≤6:=by omega
 have w12:wiB 12 (lowSum n2) (highSum n2)=(decide (lowSum n2≤12)&&decide (12≤highSum n2)):=rfl
 rw[←w12]
 simp only[q0,d1,d2,d3,decide_true,Bool.true_and]
 clear d1 d2 d3 w12
 cases c0:allB (spanOk · 12) n2
 ·simp (disch:=first|omega|assumption|decide +kernel|(simp;done)|(simp;omega)|fail) [c0,q0,q1,q2,q3,hg,hg']
 cases c1:wiB 12 (lowSum n2) (highSum n2)
 ·simp (disch:=first|omega|assumption|decide +kernel|(simp;done)|(simp;omega)|fail) [c0,c1,q0,q1,q2,q3,hg,hg']
 cases c2:allB boatOk n3
 ·simp (disch:=first|omega|assumption|decide +kernel|(simp;done)|(simp;omega)|fail) [c0,c1,c2,q0,q1,q2,q3,hg,hg']
 simp (disch:=first|omega|assumption|decide +kernel|(simp;done)|(simp;omega)|fail) [c0,c1,c2,q0,q1,q2,q3,hg,hg']
end Go.Proofs.YtoedpegjoccnlaaGreat.A

/-
  The program's Check of layer 13.
-/
namespace Go.Proofs.YtoedpegjoccnlaaGreat.A
open Go.Ab
end Go.Proofs.YtoedpegjoccnlaaGreat.A

/-
  anchors.Safe.
-/
namespace Go.Proofs.YtoedpegjoccnlaaGreat.A
open Go.Ab
def orBit(a:Int)(k:Nat):Int:=IntKind.u64.wrap (BitVec.ofInt 64 a|||BitVec.ofInt 64 (IntKind.u64.wrap (1*2^min k 64))).toNat
def loadW(w:Wal)(wind cur:Int):Int:=w.sail*wind+w.drag*cur
def sideS(l:List Wal)(w c a:Int):Int:=if 0≤a then(match l[a.toNat]? with|some x=>loadW x w c|none=>0)else 0
def bearsS(l:List Wal)(w c a:Int):Int:=sideS l w c (a-1)+sideS l w c a
def spareS(n:Net)(w c:Int)(g:List Int)(k:Nat):Int:=match n.anch[k]? with
 |some a=>2*a.weight*g.getD a.bottom.toNat 0-bearsS n.walls w c k
 |none=>0
end Go.Proofs.YtoedpegjoccnlaaGreat.A

/-
  anchors.Safe: the answer.
-/
namespace Go.Proofs.YtoedpegjoccnlaaGreat.A
open Go.Ab
def quiet(n:Net)(w c:Int)(g:List Int):Bool:=allB (fun k=>decide (0≤spareS n w c g k)) (List.range n.anch.length)
def safeS(n:Net):Int:=if netOk n=true then(if quiet n n.wind.hi n.cur.hi (n.grips.map (·.lo))=true then 1 else if quiet n n.wind.lo n.cur.lo (n.grips.map (·.hi))=true then 3 else 2)else 0
end Go.Proofs.YtoedpegjoccnlaaGreat.A

/-
  lifts.open, need, holds.
-/
namespace Go.Proofs.YtoedpegjoccnlaaGreat.A
open Go.Ab
def partS(n:Sea)(i:Nat):Sp:=match n.places[i]? with
 |some p=>⟨max p.lo (12-(highSum n.places-p.hi)),min p.hi (12-(lowSum n.places-p.lo))⟩
 |none=>⟨0,0⟩
def partK(n:Sea)(k i:Nat):Sp:=if i<k then partS n i else⟨0,0⟩
def seaCellK(n:Sea)(k:Nat):List V:=[i64 n.weight.lo,i64 n.weight.hi, .sl .no 2 (es cSp n.places), .sl .no 2 (es cBoat n.boats),i64 (partK n k 0).lo,i64 (partK n k 0).hi,i64 (partK n k 1).lo,i64 (partK n k 1).hi,i64 (partK n k 2).lo,i64 (partK n k 2).hi,i64 (partK n k 3).lo,i64 (partK n k 3).hi]
def seaCell(n:Sea):List V:=[i64 n.weight.lo,i64 n.weight.hi, .sl .no 2 (es cSp n.places), .sl .no 2 (es cBoat n.boats),i64 (partS n 0).lo,i64 (partS n 0).hi,i64 (partS n 1).lo,i64 (partS n 1).hi,i64 (partS n 2).lo,i64 (partS n 2).hi,i64 (partS n 3).lo,i64 (partS n 3).hi]
theorem seaCell_all(n:Sea)(h:n.places.length≤4):seaCellK n n.places.length=seaCell n:=by
 have key: ∀i,partK n n.places.length i=partS n i:=by
  intro i
  unfold partK
  split
  ·rfl
  ·simp[partS,List.getElem?_eq_none (show n.places.length≤i by omega)]
 simp only[seaCellK,seaCell,key]
theorem sums_bound {l:List Sp}(h: ∀x∈l,spanOk x 12=true):0≤lowSum l∧lowSum l≤12*l.length∧0≤highSum l∧highSum l≤12*l.length:=by
 induction l with
 |nil=>simp[lowSum,highSum]
 |cons x r ih=>
   have h1:=ih fun y hy=>h y (by simp[hy])
   have h2:=spanOk_iff.1 (h x (by simp))
   simp only[lowSum,highSum,List.map_cons,List.sum_cons,List.length_cons]at h1⊢
   omega
theorem e_open05_l0(n0:Int)(n1:Int)(n2:List Sp)(n3:List Boat)(s:Stk)(hl:n2.length≤4)(hp: ∀x∈n2,spanOk x 12=true):
 Run T b65l0 [(2, .ptr s.length 32 0),(7, .ptr s.length 368 0),(8,i64 0),(9,i64 0),(25, .sl .no 2 (es cSp n2)),(26,i64 n2.length),(27,i64 0)] ([(32, .cell [i64 n0,i64 n1, .sl .no 2 (es cSp n2), .sl .no 2 (es cBoat n3)]),(368, .cell [i64 n0,i64 n1, .sl .no 2 (es cSp n2), .sl .no 2 (es cBoat n3),i64 0,i64 0,i64 0,i64 0,i64 0,i64 0,i64 0,i64 0])]::s)=
  some (.exit 0,[(2, .ptr s.length 32 0),(7, .ptr s.length 368 0),(8,i64 (lowSum n2)),(9,i64 (highSum n2)),(25, .sl .no 2 (es cSp n2)),(26,i64 n2.length),(27,i64 n2.length),(28, .bool false)],[(32, .cell [i64 n0,i64 n1, .sl .no 2 (es cSp n2), .sl .no 2 (es cBoat n3)]),(368, .cell [i64 n0,i64 n1, .sl .no 2 (es cSp n2), .sl .no 2 (es cBoat n3),i64 0,i64 0,i64 0,i64 0,i64 0,i64 0,i64 0,i64 0])]::s):=by
 have key:=loop_fold (T:=T) (live:=[2,7,8,9,25,26,27]) (keep:=[32,208,240,368]) (b:=d65l0) n2 (fun k (a:Int×Int)=>0≤a.1∧a.1≤12*k∧0≤a.2∧a.2≤12*k) (fun a x=>(a.1+x.lo,a.2+x.hi))
  (fun k a=>[(2, .ptr s.length 32 0),(7, .ptr s.length 368 0),(8,i64 a.1),(9,i64 a.2),(25, .sl .no 2 (es cSp n2)),(26,i64 n2.length),(27,i64 k)]) (fun _ _=>[(32, .cell [i64 n0,i64 n1, .sl .no 2 (es cSp n2), .sl .no 2 (es cBoat n3)]),(368, .cell [i64 n0,i64 n1, .sl .no 2 (es cSp n2), .sl .no 2 (es cBoat n3),i64 0,i64 0,i64 0,i64 0,i64 0,i64 0,i64 0,i64 0])]::s)
  (fun a=>(.exit 0,[(2, .ptr s.length 32 0),(7, .ptr s.length 368 0),(8,i64 a.1),(9,i64 a.2),(25, .sl .no 2 (es cSp n2)),(26,i64 n2.length),(27,i64 n2.length),(28, .bool false)],[(32, .cell [i64 n0,i64 n1, .sl .no 2 (es cSp n2), .sl .no 2 (es cBoat n3)]),(368, .cell [i64 n0,i64 n1, .sl .no 2 (es cSp n2), .sl .no 2 (es cBoat n3),i64 0,i64 0,i64 0,i64 0,i64 0,i64 0,i64 0,i64 0])]::s))
  (by simp) ?_ ?_ ?_ (0,0) (by simp) [(2, .ptr s.length 32 0),(7, .ptr s.length 368 0),(8,i64 0),(9,i64 0),(25, .sl .no 2 (es cSp n2)),(26,i64 n2.length),(27,i64 0)] ([(32, .cell [i64 n0,i64 n1, .sl .no 2 (es cSp n2), .sl .no 2 (es cBoat n3)]),(368, .cell [i64 n0,i64 n1, .sl .no 2 (es cSp n2), .sl .no 2 (es cBoat n3),i64 0,i64 0,i64 0,i64 0,i64 0,i64 0,i64 0,i64 0])]::s) (by simp) (by simp)
 ·have e: ∀(l:List Sp) (a:Int×Int),l.foldl (fun a x=>(a.1+x.lo,a.2+x.hi)) a=(a.1+lowSum l,a.2+highSum l):=by
   intro l
   induction l with
   |nil=>intro a;simp[lowSum,highSum]
   |cons x r ih=>intro a;simp[ih,lowSum,highSum,Int.add_assoc]
  rw[e]at key
  simp only[Int.zero_add]at key
  exact key
 ·intro k a hk hi
  have h1:=spanOk_iff.1 (hp n2[k] (List.getElem_mem hk))
  simp (disch:=first|omega|assumption|decide +kernel|(simp;done)|(simp;omega)|fail) [hk,wk k (by omega),wi]
 ·intro k a hk hi
  have h1:=spanOk_iff.1 (hp n2[k] (List.getElem_mem hk))
  simp only;omega
 ·intro a hi
  simp
theorem part_bound {n:Sea}(h:seaOk n=true)(i:Nat):0≤(partS n i).lo∧(partS n i).lo≤12∧0≤(partS n i).hi∧(partS n i).hi≤12:=by
 obtain⟨⟨⟨⟨⟨⟨h1,h2⟩,h3⟩,h4⟩,h5⟩,h6⟩,h7⟩:((((((spanOk n.weight 2000=true∧(n.places.length:Int)≤4)∧(n.boats.length:Int)≤6)∧allB (spanOk · 12) n.places=true)∧allB boatOk n.boats=true)∧lowSum n.places≤12)∧12≤highSum n.places):=by simpa only[seaOk,Bool.and_eq_true,decide_eq_true_eq]using h
 unfold partS
 split
 ·rename_i p hp
  have:=spanOk_iff.1 (allB_iff.1 h4 p (List.mem_of_getElem? hp))
  simp only;omega
 ·simp
theorem seaOk_iff {n:Sea}:seaOk n=true↔spanOk n.weight 2000=true∧n.places.length≤4∧n.boats.length≤6∧(∀x∈n.places,spanOk x 12=true)∧(∀x∈n.boats,boatOk x=true)∧lowSum n.places≤12∧12≤highSum n.places:=by
 simp only[seaOk,Bool.and_eq_true,decide_eq_true_eq,allB_iff,and_assoc]
 constructor
 ·rintro⟨h1,h2,h3,h4⟩;exact⟨h1,by omega,by omega,h4⟩
 ·rintro⟨h1,h2,h3,h4⟩;exact⟨h1,by omega,by omega,h4⟩
theorem e_open05_l1(n0:Int)(n1:Int)(n2:List Sp)(n3:List Boat)(s:Stk)(hl:n2.length≤4)(hp: ∀x∈n2,spanOk x 12=true):
 Run T b65l1 [(7, .ptr s.length 368 0),(8,i64 (lowSum n2)),(9,i64 (highSum n2)),(41, .sl .no 2 (es cSp n2)),(42,i64 n2.length),(43,i64 0)] ([(32, .cell [i64 n0,i64 n1, .sl .no 2 (es cSp n2), .sl .no 2 (es cBoat n3)]),(368, .cell (seaCellK (⟨⟨n0,n1⟩,n2,n3⟩:Sea) 0))]::s)=
  some (.exit 2,[(7, .ptr s.length 368 0),(8,i64 (lowSum n2)),(9,i64 (highSum n2)),(41, .sl .no 2 (es cSp n2)),(42,i64 n2.length),(43,i64 n2.length),(44, .bool false)],[(32, .cell [i64 n0,i64 n1, .sl .no 2 (es cSp n2), .sl .no 2 (es cBoat n3)]),(368, .cell (seaCellK (⟨⟨n0,n1⟩,n2,n3⟩:Sea) n2.length))]::s):=by
 have key:=loop_fold (T:=T) (live:=[7,8,9,41,42,43]) (keep:=[32,176,240,368]) (b:=d65l1) n2 (fun _ (_:Unit)=>True) (fun a _=>a)
  (fun k _=>[(7, .ptr s.length 368 0),(8,i64 (lowSum n2)),(9,i64 (highSum n2)),(41, .sl .no 2 (es cSp n2)),(42,i64 n2.length),(43,i64 k)]) (fun k _=>[(32, .cell [i64 n0,i64 n1, .sl .no 2 (es cSp n2), .sl .no 2 (es cBoat n3)]),(368, .cell (seaCellK (⟨⟨n0,n1⟩,n2,n3⟩:Sea) k))]::s)
  (fun _=>(.exit 2,[(7, .ptr s.length 368 0),(8,i64 (lowSum n2)),(9,i64 (highSum n2)),(41, .sl .no 2 (es cSp n2)),(42,i64 n2.length),(43,i64 n2.length),(44, .bool false)],[(32, .cell [i64 n0,i64 n1, .sl .no 2 (es cSp n2), .sl .no 2 (es cBoat n3)]),(368, .cell (seaCellK (⟨⟨n0,n1⟩,n2,n3⟩:Sea) n2.length))]::s))
  (by simp) ?_ (by simp) ?_ () trivial [(7, .ptr s.length 368 0),(8,i64 (lowSum n2)),(9,i64 (highSum n2)),(41, .sl .no 2 (es cSp n2)),(42,i64 n2.length),(43,i64 0)] ([(32, .cell [i64 n0,i64 n1, .sl .no 2 (es cSp n2), .sl .no 2 (es cBoat n3)]),(368, .cell (seaCellK (⟨⟨n0,n1⟩,n2,n3⟩:Sea) 0))]::s) (by simp) (by simp[seaCellK])
 ·exact key
 ·intro k a hk _
  have h1:=spanOk_iff.1 (hp n2[k] (List.getElem_mem hk))
  have h2:=sums_bound hp
  have hpk:partS (⟨⟨n0,n1⟩,n2,n3⟩:Sea) k=⟨max n2[k].lo (12-(highSum n2-n2[k].hi)),min n2[k].hi (12-(lowSum n2-n2[k].lo))⟩:=by simp[partS,hk]
  obtain rfl|rfl|rfl|rfl:k=0∨k=1∨k=2∨k=3:=by omega
  all_goals (simp (disch:=first|omega|assumption|decide +kernel|(simp;done)|(simp;omega)|fail) [hk,wi,seaCellK,partK,hpk]<;>omega)
 ·intro a hi
  simp[seaCellK]
theorem e_open05(n0:Int)(n1:Int)(n2:List Sp)(n3:List Boat)(hok:seaOk (⟨⟨n0,n1⟩,n2,n3⟩:Sea)=true)(lab)(loc:Ab.Loc)(s:Stk)(k0:loc.get lab=none):
 den T 65 [.agg [i64 n0,i64 n1, .sl .no 2 (es cSp n2), .sl .no 2 (es cBoat n3)], .bool true] lab (loc::s)=some (.tup [.ptr s.length lab 0,i64 0],loc.put lab (.cell (seaCell (⟨⟨n0,n1⟩,n2,n3⟩:Sea)))::s):=by
 obtain⟨h1,h2,h3,h4,h5,h6,h7⟩:=seaOk_iff.1 hok
 simp only at h1 h2 h3 h4 h5 h6 h7
 have g0:=e_open05_l0 n0 n1 n2 n3 (loc::s) h2 h4
 have g1:=e_open05_l1 n0 n1 n2 n3 (loc::s) h2 h4
 rw[seaCell_all (⟨⟨n0,n1⟩,n2,n3⟩:Sea) h2]at g1
 simp only[seaCellK,partK,Nat.not_lt_zero,if_false,List.length_cons]at g0 g1
 rw[den_fn t65 _ _ _ rfl]
 simp only[b65]
 simp (disch:=first|omega|assumption|decide +kernel|(simp;done)|(simp;omega)|fail) [hok,g0,g1,k0,seaCell]
theorem e_open05_bad(n0:Int)(n1:Int)(n2:List Sp)(n3:List Boat)(hok:seaOk (⟨⟨n0,n1⟩,n2,n3⟩:Sea)=false)(lab)(loc:Ab.Loc)(s:Stk):
 den T 65 [.agg [i64 n0,i64 n1, .sl .no 2 (es cSp n2), .sl .no 2 (es cBoat n3)], .bool true] lab (loc::s)=some (.tup [.nilp,i64 50],loc::s):=by
 rw[den_fn t65 _ _ _ rfl]
 simp only[b65]
 simp (disch:=first|omega|assumption|decide +kernel|(simp;done)|(simp;omega)|fail) [hok]
def needS(n:Sea)(i:Nat):Int:=(n.weight.hi*(partS n i).hi+11)/12
theorem e_need(n:Sea)(hok:seaOk n=true)(k:Nat)(hk:k<4)(d l:Nat)(S:Stk)(hd:d<S.length)(h:sget S d l=some (.cell (seaCell n)))(lab):
 den T 92 [.ptr d l 0,i64 k] lab S=some (i64 (needS n k),S):=by
 obtain⟨h1,h2,h3,h4,h5,h6,h7⟩:=seaOk_iff.1 hok
 have hw:=spanOk_iff.1 h1
 have hp:=part_bound hok k
 have hd': ¬d=S.length:=by omega
 have hm:=mulb (a:=n.weight.hi) (A:=2000) (w:=(partS n k).hi) (W:=12) (by omega) (by omega) (by omega) (by omega)
 have hq:IntKind.i64.wrap ((n.weight.hi*(partS n k).hi+11).tdiv 12)=needS n k:=IntWalk.i64_quo _ _ ⟨by omega,by omega,by omega⟩
 have e1:n.weight.hi*(partS n k).hi+12-1=n.weight.hi*(partS n k).hi+11:=by omega
 rw[den_fn t92 _ _ _ rfl]
 simp only[b92]
 obtain rfl|rfl|rfl|rfl:k=0∨k=1∨k=2∨k=3:=by omega
 all_goals simp (disch:=first|omega|assumption|decide +kernel|(simp;done)|(simp;omega)|fail) [h,hd',seaCell,wi,e1,hq]
end Go.Proofs.YtoedpegjoccnlaaGreat.A

/-
  lifts: crews.
-/
namespace Go.Proofs.YtoedpegjoccnlaaGreat.A
open Go.Ab
theorem e_Index_l(l:List Int)(n:Int)(S:Stk)(hl:l.length<4611686018427387904):
 ∃g:Nat,Run T b137l0 [(0, .sl .no 1 (es cInt l)),(1,i64 n),(7,i64 l.length),(8,i64 0)] ([]::S)=
  if allB (fun x=> !decide (x=n)) l=true then some (.exit 0,[(0, .sl .no 1 (es cInt l)),(1,i64 n),(7,i64 l.length),(8,i64 l.length),(9, .bool false)],[]::S)else some (.ret,[(4,i64 (g:Nat))],[]::S):=by
 refine loop_all_g l (fun x=> !decide (x=n)) (fun k=>[(0, .sl .no 1 (es cInt l)),(1,i64 n),(7,i64 l.length),(8,i64 k)]) (fun _=>[]::S) (fun g:Nat=>(.ret,[(4,i64 (g:Nat))],[]::S)) _ (by simp) (by simp) ?_ (by simp) _ _ (by simp) (by simp)
 intro k hk
 refine⟨k,?_⟩
 by_cases h:l[k]=n
 ·have h':n=l[k]:=h.symm
  simp (disch:=first|omega|assumption|decide +kernel|(simp;done)|(simp;omega)|fail) [hk,h,wk k (by omega)]
 ·have h': ¬n=l[k]:=fun e=>h e.symm
  simp (disch:=first|omega|assumption|decide +kernel|(simp;done)|(simp;omega)|fail) [hk,h,h',wk k (by omega)]
@[simp] theorem e_Contains(l:List Int)(n:Int)(S:Stk)(hl:l.length<4611686018427387904)(lab):
 den T 110 [.sl .no 1 (es cInt l),i64 n] lab S=some (.bool (anyB (fun x=>decide (x=n)) l),S):=by
 have ha:anyB (fun x=>decide (x=n)) l= !allB (fun x=> !decide (x=n)) l:=by simp only[anyB,allB,List.not_all_eq_any_not,Bool.not_not]
 have hi: ∃r:Int,(∀lab S',S'=[]::S→den T 137 [.sl .no 1 (es cInt l),i64 n] lab S'=some (i64 r,S'))∧(0≤r↔anyB (fun x=>decide (x=n)) l=true):=by
  obtain⟨g,hg⟩:=e_Index_l l n ([]::S) hl
  rw[ha]
  refine⟨if allB (fun x=> !decide (x=n)) l=true then -1 else g,?_,?_⟩
  rotate_left
  ·cases allB (fun x=> !decide (x=n)) l<;>simp
  intro lab S' hS
  subst hS
  rw[den_fn t137 _ _ _ rfl]
  simp only[b137]
  cases h:allB (fun x=> !decide (x=n)) l<;>simp (disch:=first|omega|assumption|decide +kernel|(simp;done)|(simp;omega)|fail) [hg,h]
 obtain⟨r,hr,hi⟩:=hi
 have hr':=fun lab=>hr lab _ rfl
 rw[den_fn t110 _ _ _ rfl]
 simp only[b110]
 by_cases h:0≤r
 ·have:=hi.1 h
  simp (disch:=first|omega|assumption|decide +kernel|(simp;done)|(simp;omega)|fail) [hr',h,this]
 ·have:anyB (fun x=>decide (x=n)) l=false:=by cases hx:anyB (fun x=>decide (x=n)) l;rfl;exact absurd (hi.2 hx) h
  simp (disch:=first|omega|assumption|decide +kernel|(simp;done)|(simp;omega)|fail) [hr',h,this]
def crewsFrom(nb:Nat):Nat→List Int→List (List Int)
 |0,c=>[c]
 |r+1,c=>(List.range nb).flatMap fun(b:Nat)=>if anyB (fun x=>decide (x=(b:Int))) c=true then []else crewsFrom nb r (c ++[(b:Int)])
structure Yield05(n:Sea)(σ:Type)(d l ds ls D:Nat)(St:σ→Stk)(Y:σ→List Int→σ×Bool):Prop where
 len: ∀a,(St a).length=D
 lt:ds<D
 ltd:d<D
 sea: ∀a,sget (St a) ds ls=some (.cell (seaCell n))
 yield: ∀(fr:Stk) a c lab,(∀x:Int,x∈c→0≤x∧x<(n.boats.length:Int))→c.length=n.places.length→denV T (.yld d l) [.sl .no 1 (es cInt c)] lab (fr ++St a)=some (.bool (Y a c).2,fr ++St (Y a c).1)
def crewsFrame(ds ls d l D:Nat):Ab.Loc:=[(32, .cell [.ptr ds ls 0]),(48, .cell [.yld d l]),(64, .cell [.fn 109 [] [.ptr D 32 0, .ptr D 48 0, .ptr D 64 0]])]
theorem sget_append(d l:Nat): ∀(fr S:Stk),d<S.length→sget (fr ++S) d l=sget S d l
 |[],_,_=>rfl
 |x::fr,S,h=>by
   rw[List.cons_append,sget_cons,if_neg (by simp;omega)]
   exact sget_append d l fr S h
set_option maxHeartbeats 4000000 in
theorem e_from05(n:Sea)(hb:n.boats.length≤6)(hm:n.places.length≤4) {σ:Type} {d l ds ls D:Nat} {St:σ→Stk} {Y:σ→List Int→σ×Bool}(y:Yield05 n σ d l ds ls D St Y):
 ∀(r:Nat) (c:List Int),c.length+r=n.places.length→(∀x:Int,x∈c→0≤x∧x<(n.boats.length:Int))→ ∀(fr:Stk) (a:σ) (lab:Nat),
  den T 109 [.sl .no 1 (es cInt c), .ptr D 32 0, .ptr D 48 0, .ptr D 64 0] lab (fr ++crewsFrame ds ls d l D::St a)=
   some (.bool (foldB Y (crewsFrom n.boats.length r c) a).2,fr ++crewsFrame ds ls d l D::St (foldB Y (crewsFrom n.boats.length r c) a).1):=by
 have facts: ∀(fr:Stk) (a:σ),sget (fr ++crewsFrame ds ls d l D::St a) D 32=some (.cell [.ptr ds ls 0])∧sget (fr ++crewsFrame ds ls d l D::St a) D 48=some (.cell [.yld d l])∧
  sget (fr ++crewsFrame ds ls d l D::St a) D 64=some (.cell [.fn 109 [] [.ptr D 32 0, .ptr D 48 0, .ptr D 64 0]])∧sget (fr ++crewsFrame ds ls d l D::St a) ds ls=some (.cell (seaCell n))∧
  (¬D=(fr ++crewsFrame ds ls d l D::St a).length)∧(¬ds=(fr ++crewsFrame ds ls d l D::St a).length)∧(¬d=(fr ++crewsFrame ds ls d l D::St a).length):=by
  intro fr a
  have hl:=y.len a
  have hlt:=y.lt
  have hltd:=y.ltd
  have g: ∀l',sget (fr ++crewsFrame ds ls d l D::St a) D l'=(crewsFrame ds ls d l D).get l':=fun l'=>by
   rw[sget_append _ _ _ _ (by simp only[List.length_cons];omega),←hl,sget_top]
  refine⟨by rw[g];rfl,by rw[g];rfl,by rw[g];rfl,?_,?_,?_,?_⟩
  ·rw[show fr ++crewsFrame ds ls d l D::St a=(fr ++[crewsFrame ds ls d l D]) ++St a by simp,sget_append _ _ _ _ (by omega),y.sea]
  all_goals simp only[List.length_append,List.length_cons];omega
 intro r
 induction r with
 |zero=>
   intro c hr hc fr a lab
   obtain⟨h32,h48,h64,hsea,hD,hds,hd⟩:=facts fr a
   have hy:=y.yield ([]::(fr ++[crewsFrame ds ls d l D])) a c
   simp only[List.cons_append,List.append_assoc,List.nil_append]at hy
   have hy2:=fun lab=>hy lab hc (by omega)
   have e:foldB Y (crewsFrom n.boats.length 0 c) a=Y a c:=by
    simp only[crewsFrom,foldB]
    split
    ·rename_i h;exact Prod.ext rfl h.symm
    ·rfl
   rw[e]
   generalize fr ++crewsFrame ds ls d l D::St a=X at*
   generalize fr ++crewsFrame ds ls d l D::St (Y a c).1=X' at*
   have hcl:(c.length:Int)=n.places.length:=by omega
   rw[den_fn t109 _ _ _ rfl]
   simp only[b109]
   simp (disch:=first|omega|assumption|decide +kernel|(simp;done)|(simp;omega)|fail) [h32,h48,hsea,hD,hds,hd,hy2,seaCell,hcl]
 |succ r ih=>
   intro c hr hc fr a lab
   obtain⟨X,hX⟩: ∃X:σ→Stk,∀a,fr ++crewsFrame ds ls d l D::St a=X a:=⟨_,fun _=>rfl⟩
   have fx: ∀a,sget (X a) D 32=some (.cell [.ptr ds ls 0])∧sget (X a) D 48=some (.cell [.yld d l])∧sget (X a) D 64=some (.cell [.fn 109 [] [.ptr D 32 0, .ptr D 48 0, .ptr D 64 0]])∧sget (X a) ds ls=some (.cell (seaCell n))∧(¬D=(X a).length)∧(¬ds=(X a).length)∧(¬d=(X a).length):=fun a=>by
    have:=facts fr a;rw[hX]at this;exact this
   rw[hX,hX]
   have hne: ¬(c.length:Int)=n.places.length:=by omega
   have key:=fun a0=>loop_list_e (T:=T) (live:=[0,3,24,25]) (keep:=[288]) (b:=d109l0) (List.range n.boats.length) (fun _ (_:σ)=>True)
    (fun k _=>[(0, .sl .no 1 (es cInt c)),(3, .ptr D 64 0),(24,i64 n.boats.length),(25,i64 k)]) (fun _ a=>[]::X a)
    (fun a (b:Nat)=>foldB Y (if anyB (fun x=>decide (x=(b:Int))) c=true then []else crewsFrom n.boats.length r (c ++[(b:Int)])) a)
    (fun(g:Ab.Loc) a=>(.ret,[(5, .bool false)],g::X a)) (fun a=>(.exit 0,[(0, .sl .no 1 (es cInt c)),(3, .ptr D 64 0),(24,i64 n.boats.length),(25,i64 n.boats.length),(26, .bool false)],[]::X a))
    (by simp) (by simp) ?_ ?_ a0 trivial [(0, .sl .no 1 (es cInt c)),(3, .ptr D 64 0),(24,i64 n.boats.length),(25,i64 0)] ([]::X a0) (by simp[(fx a0).2.2.2.2.1]) (by simp)
   ·obtain⟨g,hg⟩:=key a
    change Run T b109l0 _ _=_ at hg
    have e:foldB Y (crewsFrom n.boats.length (r+1) c) a=foldB (fun a (b:Nat)=>foldB Y (if anyB (fun x=>decide (x=(b:Int))) c=true then []else crewsFrom n.boats.length r (c ++[(b:Int)])) a) (List.range n.boats.length) a:=by
     rw[crewsFrom,foldB_flatMap]
    rw[e]
    generalize foldB (fun a (b:Nat)=>foldB Y (if anyB (fun x=>decide (x=(b:Int))) c=true then []else crewsFrom n.boats.length r (c ++[(b:Int)])) a) (List.range n.boats.length) a=q at hg
    obtain⟨a',bb⟩:=q
    obtain⟨h32,h48,h64,hsea,hD,hds,hd⟩:=fx a
    rw[den_fn t109 _ _ _ rfl]
    simp only[b109]
    cases bb
    ·simp (disch:=first|omega|assumption|decide +kernel|(simp;done)|(simp;omega)|fail) [h32,h48,h64,hsea,hD,hds,hd,seaCell,hne,hg]
    ·simp (disch:=first|omega|assumption|decide +kernel|(simp;done)|(simp;omega)|fail) [h32,h48,h64,hsea,hD,hds,hd,seaCell,hne,hg]
   ·intro k a hk _
    simp only[List.length_range]at hk
    simp only[List.getElem_range]
    obtain⟨h32,h48,h64,hsea,hD,hds,hd⟩:=fx a
    have hcl:c.length<10:=by omega
    cases hin:anyB (fun x=>decide (x=(k:Int))) c
    rotate_left
    ·refine⟨fun _=>⟨?_,trivial⟩,fun h=>by simp[foldB]at h⟩
     simp (maxSteps:=1000000) (disch:=first|omega|assumption|decide +kernel|(simp;done)|(simp;omega)|fail) [run_drawnK,hin,hD,hk,foldB,wk k (by omega)]
    ·have h1:=fun lab=>ih (c ++[(k:Int)]) (by simp;omega) (fun x hx=>by
      rcases List.mem_append.1 hx with h|h
      ·exact hc x h
      ·simp at h;omega) ([(672, .tok (c.length+1))]::fr) a lab
     simp only[List.cons_append]at h1
     rw[hX,hX]at h1
     simp only[hin,Bool.false_eq_true,if_false]
     generalize foldB Y (crewsFrom n.boats.length r (c ++[(k:Int)])) a=q at h1
     obtain⟨a',bb⟩:=q
     refine⟨fun hb=>⟨?_,trivial⟩,fun hb=>⟨[(672, .tok (c.length+1))],?_⟩⟩
     ·simp only at hb
      subst hb
      simp (maxSteps:=1000000) (disch:=first|omega|assumption|decide +kernel|(simp;done)|(simp;omega)|fail) [run_drawnK,hin,hD,hds,h64,hk,appD_full1,denV_fn,h1,(fx a').2.2.2.2.1,wk k (by omega)]
     ·simp only at hb
      subst hb
      simp (maxSteps:=1000000) (disch:=first|omega|assumption|decide +kernel|(simp;done)|(simp;omega)|fail) [run_drawnK,hin,hD,hds,h64,hk,appD_full1,denV_fn,h1,(fx a').2.2.2.2.1]
   ·intro a _
    obtain⟨h32,h48,h64,hsea,hD,hds,hd⟩:=fx a
    simp
end Go.Proofs.YtoedpegjoccnlaaGreat.A

/-
  lifts.Cheap.
-/
namespace Go.Proofs.YtoedpegjoccnlaaGreat.A
open Go.Ab
def boatAt(n:Sea)(b:Int):Boat:=n.boats.getD b.toNat default
def holdsAt(n:Sea)(c:List Int)(i:Nat):Bool:=decide (needS n i≤(boatAt n (c.getD i 0)).carry)
def holdsS(n:Sea)(c:List Int):Bool:=allB (holdsAt n c) (List.range c.length)
theorem e_holds05(n:Sea)(hok:seaOk n=true)(c:List Int)(hc: ∀x:Int,x∈c→0≤x∧x<(n.boats.length:Int))(hcl:c.length≤4)(d l:Nat)(S:Stk)(hd:d<S.length)(h:sget S d l=some (.cell (seaCell n)))(lab):
 den T 74 [.ptr d l 0, .sl .no 1 (es cInt c)] lab S=some (.bool (holdsS n c),S):=by
 have hd': ¬d=S.length:=by omega
 have key:Run T b74l0 [(0, .ptr d l 0),(7, .sl .no 1 (es cInt c)),(8,i64 c.length),(9,i64 0)] ([]::S)=
  if allB (holdsAt n c) (List.range c.length)=true then some (.exit 0,[(0, .ptr d l 0),(7, .sl .no 1 (es cInt c)),(8,i64 c.length),(9,i64 c.length),(10, .bool false)],[]::S)else some (.ret,[(4, .bool false)],[]::S):=by
  refine loop_all (List.range c.length) (holdsAt n c) (fun k=>[(0, .ptr d l 0),(7, .sl .no 1 (es cInt c)),(8,i64 c.length),(9,i64 k)]) (fun _=>[]::S) _ _ (by simp) (by simp) ?_ (by simp) _ _ (by simp[hd']) (by simp)
  intro k hk
  simp only[List.length_range]at hk
  simp only[List.getElem_range]
  obtain⟨h1,h2⟩:=hc c[k] (List.getElem_mem hk)
  have h3:c[k].toNat<n.boats.length:=by omega
  have hn:=fun lab=>e_need n hok k (by omega) d l ([]::S) (by simp;omega) (by rw[sget_cons,if_neg hd',h]) lab
  have hat:holdsAt n c k=decide (needS n k≤n.boats[c[k].toNat].carry):=by simp[holdsAt,boatAt,hk,h3]
  rw[hat]
  by_cases h4:n.boats[c[k].toNat].carry<needS n k
  ·have h5: ¬needS n k≤n.boats[c[k].toNat].carry:=by omega
   simp (disch:=first|omega|assumption|decide +kernel|(simp;done)|(simp;omega)|fail) [hk,h,hd',h1,h3,hn,h4,h5,seaCell]
  ·have h5:needS n k≤n.boats[c[k].toNat].carry:=by omega
   simp (disch:=first|omega|assumption|decide +kernel|(simp;done)|(simp;omega)|fail) [hk,h,hd',h1,h3,hn,h4,h5,seaCell,wk k (by omega)]
 rw[den_fn t74 _ _ _ rfl]
 simp only[b74]
 cases hx:allB (holdsAt n c) (List.range c.length)
 ·simp (disch:=first|omega|assumption|decide +kernel|(simp;done)|(simp;omega)|fail) [key,hx,holdsS,hd']
 ·simp (disch:=first|omega|assumption|decide +kernel|(simp;done)|(simp;omega)|fail) [key,hx,holdsS,hd']
theorem e_crews05(n:Sea)(hb:n.boats.length≤6)(hm:n.places.length≤4) {σ:Type} {d l ds ls D:Nat} {St:σ→Stk} {Y:σ→List Int→σ×Bool}(y:Yield05 n σ d l ds ls D St Y)(a:σ)(lab):
 den T 89 [.ptr ds ls 0, .yld d l] lab (St a)=some (.tup [],St (foldB Y (crewsFrom n.boats.length n.places.length []) a).1):=by
 have h:=fun lab=>e_from05 n hb hm y n.places.length [] (by simp) (by simp) [] a lab
 have hl:=y.len a
 have hds: ¬ds=(St a).length:=by have:=y.lt;omega
 have hd: ¬d=(St a).length:=by have:=y.ltd;omega
 simp only[es_nil,List.nil_append,←hl,crewsFrame]at h
 rw[den_fn t89 _ _ _ rfl]
 simp only[b89]
 simp (disch:=first|omega|assumption|decide +kernel|(simp;done)|(simp;omega)|fail) [denV_fn,h,hds,hd]
def costS(n:Sea)(c:List Int):Int:=c.foldl (fun a b=>a+(boatAt n b).pence) 0
def cheapY(n:Sea)(a:Option (List Int)×Int)(c:List Int):Option (List Int)×Int:=if holdsS n c=true then(if a.2<0∨costS n c<a.2 then(some c,costS n c)else a)else a
def crewV:Option (List Int)→V
 |none=> .sl .full 1 []
 |some c=> .sl .no 1 (es cInt c)
theorem cost_l(n:Sea)(hok:seaOk n=true)(c:List Int)(hc: ∀x:Int,x∈c→0≤x∧x<(n.boats.length:Int))(hcl:c.length≤4)(d ds ls:Nat)(X:Stk)(hd: ¬d=X.length)(hds: ¬ds=X.length)(h16:sget X d 16=some (.cell [.ptr ds ls 0]))(hsea:sget X ds ls=some (.cell (seaCell n))):
 Run T b66l0 [(1, .ptr d 16 0),(2, .ptr d 32 0),(3, .ptr d 48 0),(4, .sl .no 1 (es cInt c)),(5,i64 0),(15, .sl .no 1 (es cInt c)),(16,i64 c.length),(17,i64 0)] ([]::X)=
  some (.exit 2,[(1, .ptr d 16 0),(2, .ptr d 32 0),(3, .ptr d 48 0),(4, .sl .no 1 (es cInt c)),(5,i64 (costS n c)),(15, .sl .no 1 (es cInt c)),(16,i64 c.length),(17,i64 c.length),(18, .bool false)],[]::X):=by
 refine loop_fold c (fun k (a:Int)=>0≤a∧a≤99*k) (fun(a:Int) b=>a+(boatAt n b).pence) (fun k a=>[(1, .ptr d 16 0),(2, .ptr d 32 0),(3, .ptr d 48 0),(4, .sl .no 1 (es cInt c)),(5,i64 a),(15, .sl .no 1 (es cInt c)),(16,i64 c.length),(17,i64 k)]) (fun _ _=>[]::X)
  (fun a=>(.exit 2,[(1, .ptr d 16 0),(2, .ptr d 32 0),(3, .ptr d 48 0),(4, .sl .no 1 (es cInt c)),(5,i64 a),(15, .sl .no 1 (es cInt c)),(16,i64 c.length),(17,i64 c.length),(18, .bool false)],[]::X)) (by simp) ?_ ?_ ?_ 0 (by simp) _ _ (by simp[hd]) (by simp)
 ·intro k a hk hi
  obtain⟨h1,h2⟩:=hc c[k] (List.getElem_mem hk)
  have h3:c[k].toNat<n.boats.length:=by omega
  have hb:boatAt n c[k]=n.boats[c[k].toNat]:=by simp[boatAt,h3]
  have hp:0≤n.boats[c[k].toNat].pence∧n.boats[c[k].toNat].pence≤99:=by
   have:=(seaOk_iff.1 hok).2.2.2.2.1 _ (List.getElem_mem h3)
   simp only[boatOk,Bool.and_eq_true,within_iff]at this;exact this.2
  rw[hb]
  simp (disch:=first|omega|assumption|decide +kernel|(simp;done)|(simp;omega)|fail) [hk,hd,hds,h16,hsea,h1,h3,seaCell,wi,wk k (by omega)]
 ·intro k a hk hi
  obtain⟨h1,h2⟩:=hc c[k] (List.getElem_mem hk)
  have h3:c[k].toNat<n.boats.length:=by omega
  have hb:boatAt n c[k]=n.boats[c[k].toNat]:=by simp[boatAt,h3]
  have hp:0≤n.boats[c[k].toNat].pence∧n.boats[c[k].toNat].pence≤99:=by
   have:=(seaOk_iff.1 hok).2.2.2.2.1 _ (List.getElem_mem h3)
   simp only[boatOk,Bool.and_eq_true,within_iff]at this;exact this.2
  rw[hb];omega
 ·intro a hi
  simp[hd]
def cheapEnv(d ds ls:Nat):Env:=[(1, .ptr d 16 0),(2, .ptr d 32 0),(3, .ptr d 48 0),(9, .fn 89 [.ptr ds ls 0] [])]
def cheapF(d ds ls:Nat)(x:LoopState)(a:Option (List Int)×Int):Ab.Loc:=[(16, .cell [.ptr ds ls 0]),(32, .cell [crewV a.1]),(48, .cell [i64 a.2]),(16903, .loop [10] b66l1 b66l2 (cheapEnv d ds ls) x none)]
theorem cheap_body(n:Sea)(hok:seaOk n=true)(c:List Int)(hc: ∀x:Int,x∈c→0≤x∧x<(n.boats.length:Int))(hcl:c.length≤4)(d ds ls:Nat)(X:Option (List Int)×Int→Stk)(hd: ∀a,¬d=(X a).length)(hds: ∀a,ds<(X a).length)(h16: ∀a,sget (X a) d 16=some (.cell [.ptr ds ls 0]))(hsea: ∀a,sget (X a) ds ls=some (.cell (seaCell n)))
 (h32: ∀a,sget (X a) d 32=some (.cell [crewV a.1])) (h48: ∀a,sget (X a) d 48=some (.cell [i64 a.2])) (p32: ∀a c,sput (X a) d 32 (.cell [.sl .no 1 (es cInt c)])=X (some c,a.2)) (p48: ∀a m,sput (X a) d 48 (.cell [i64 m])=X (a.1,m)) (a):
 ∃e,Run T b66l2 [(1, .ptr d 16 0),(2, .ptr d 32 0),(3, .ptr d 48 0),(4, .sl .no 1 (es cInt c))] ([]::X a)=some (.normal,e,[]::X (cheapY n a c)):=by
 have hds': ∀a,¬ds=(X a).length:=fun a=>by have:=hds a;omega
 have hh:=fun a lab=>e_holds05 n hok c hc hcl ds ls ([]::X a) (by have:=hds a;simp;omega) (by rw[sget_cons,if_neg (hds' a),hsea a]) lab
 have hcost:=cost_l n hok c hc hcl d ds ls (X a) (hd a) (hds' a) (h16 a) (hsea a)
 have hdl: ∀a,d<(X a).length→True:=fun _ _=>trivial
 simp only[b66l2]
 cases x0:holdsS n c
 ·refine⟨[(1, .ptr d 16 0),(2, .ptr d 32 0),(3, .ptr d 48 0),(4, .sl .no 1 (es cInt c)),(14, .bool true)],?_⟩
  have e1:cheapY n a c=a:=by simp[cheapY,x0]
  rw[e1]
  simp (disch:=first|omega|assumption|decide +kernel|(simp;done)|(simp;omega)|fail) [hd,hds',h16,hh,x0]
 ·by_cases x1:a.2<0
  ·refine⟨[(2, .ptr d 32 0),(3, .ptr d 48 0)],?_⟩
   have e1:cheapY n a c=(some c,costS n c):=by simp[cheapY,x0,x1]
   rw[e1]
   simp (disch:=first|omega|assumption|decide +kernel|(simp;done)|(simp;omega)|fail) [hd,hds',h16,hh,x0,x1,hcost,h48,h32,p32,p48]
  ·by_cases x2:costS n c<a.2
   ·refine⟨[(2, .ptr d 32 0),(3, .ptr d 48 0)],?_⟩
    have e1:cheapY n a c=(some c,costS n c):=by simp[cheapY,x0,x2]
    rw[e1]
    simp (disch:=first|omega|assumption|decide +kernel|(simp;done)|(simp;omega)|fail) [hd,hds',h16,hh,x0,x1,x2,hcost,h48,h32,p32,p48]
   ·refine⟨[(2, .ptr d 32 0),(3, .ptr d 48 0),(4, .sl .no 1 (es cInt c)),(5,i64 (costS n c)),(39, .bool false)],?_⟩
    have e1:cheapY n a c=a:=by simp[cheapY,x0,x1,x2]
    rw[e1]
    simp (disch:=first|omega|assumption|decide +kernel|(simp;done)|(simp;omega)|fail) [hd,hds',h16,hh,x0,x1,x2,hcost,h48]
theorem cheap_yield(n:Sea)(hok:seaOk n=true)(ds ls:Nat)(S0:Stk)(hds:ds<S0.length)(hsea:sget S0 ds ls=some (.cell (seaCell n))):
 Yield05 n (Option (List Int)×Int) S0.length 16903 ds ls (S0.length+1) (fun a=>cheapF S0.length ds ls .ready a::S0) (fun a c=>(cheapY n a c,true)) where
 len:=fun a=>by simp
 lt:=by omega
 ltd:=by omega
 sea:=fun a=>by rw[sget_cons,if_neg (by omega),hsea]
 yield:=fun fr a c lab hc hcl=>by
  have hm:=(seaOk_iff.1 hok).2.1
  have top: ∀(x:LoopState) a l',sget (fr ++cheapF S0.length ds ls x a::S0) S0.length l'=(cheapF S0.length ds ls x a).get l':=fun x a l'=>by
   rw[sget_append _ _ _ _ (by simp),sget_top]
  have put: ∀(x:LoopState) a l' en,sput (fr ++cheapF S0.length ds ls x a::S0) S0.length l' en=fr ++(cheapF S0.length ds ls x a).put l' en::S0:=fun x a l' en=>by
   rw[sput_append _ _ _ _ _ (by simp),sput_top]
  have hlen: ∀(x:LoopState) a,S0.length<(fr ++cheapF S0.length ds ls x a::S0).length:=fun x a=>by simp;omega
  obtain⟨e,hB⟩:=cheap_body n hok c hc (by omega) S0.length ds ls (fun a=>fr ++cheapF S0.length ds ls .busy a::S0) (fun a=>by have:=hlen .busy a;omega) (fun a=>by have:=hlen .busy a;omega) (fun a=>by rw[top];rfl)
   (fun a=>by
     have h1:ds<(cheapF S0.length ds ls .busy a::S0).length:=by simp;omega
     rw[sget_append ds ls fr _ h1,sget_cons,if_neg (by omega),hsea]) (fun a=>by rw[top];rfl) (fun a=>by rw[top];rfl) (fun a c=>by rw[put];rfl) (fun a m=>by rw[put];rfl) a
  refine(yld_run (ps:=[10]) (A:=b66l1) (B:=b66l2) (env:=cheapEnv S0.length ds ls) (ex:= .normal) (st:= .busy) (p:=none) (s3:=fr ++cheapF S0.length ds ls .busy (cheapY n a c)::S0) (by rw[top];rfl) rfl (e1:=[(1, .ptr S0.length 16 0),(2, .ptr S0.length 32 0),(3, .ptr S0.length 48 0),(4, .sl .no 1 (es cInt c))]) (fr1:=[]) ?_ (hlen _ _) (e2:=e) (fr2:=[]) ?_ (by rw[top];rfl)).trans ?_
  ·simp[b66l1,cheapEnv,bindEnv]
  ·rw[put];exact hB
  ·rw[put];rfl
theorem foldB_true {α σ:Type}(f:σ→α→σ): ∀(l:List α) (a:σ),foldB (fun a x=>(f a x,true)) l a=(l.foldl f a,true)
 |[],_=>rfl
 |x::l,a=>by simp only[foldB,if_true,foldB_true f l,List.foldl_cons]
def cheapS(n:Sea):Option (List Int)×Int:=(crewsFrom n.boats.length n.places.length []).foldl (cheapY n) (none,-1)
set_option maxHeartbeats 1000000 in
theorem e_cheapest(n:Sea)(hok:seaOk n=true)(ds ls:Nat)(S0:Stk)(hds:ds<S0.length)(hsea:sget S0 ds ls=some (.cell (seaCell n)))(lab):
 den T 66 [.ptr ds ls 0] lab S0=some (.tup [.sl .no 1 (es cInt ((cheapS n).1.getD [])),i64 (cheapS n).2],S0):=by
 have h:=e_crews05 n (seaOk_iff.1 hok).2.2.1 (seaOk_iff.1 hok).2.1 (cheap_yield n hok ds ls S0 hds hsea) (none,-1)
 rw[foldB_true]at h
 change∀lab,den T _ _ lab _=some (_,cheapF S0.length ds ls .ready (cheapS n)::S0)at h
 simp only[cheapF,crewV,cheapEnv]at h
 have hds': ¬ds=S0.length:=by omega
 rw[den_fn t66 _ _ _ rfl]
 simp only[b66]
 generalize cheapS n=q at h
 obtain⟨v,m⟩:=q
 cases v
 ·simp (maxSteps:=1000000) (disch:=first|omega|assumption|decide +kernel|(simp;done)|(simp;omega)|fail) [run_drawnK,h,hds',crewV]
 ·simp (maxSteps:=1000000) (disch:=first|omega|assumption|decide +kernel|(simp;done)|(simp;omega)|fail) [run_drawnK,h,hds',crewV]
end Go.Proofs.YtoedpegjoccnlaaGreat.A

/-
  lifts.Cheap; skies.open.
-/
namespace Go.Proofs.YtoedpegjoccnlaaGreat.A
open Go.Ab
def cheapR(n:Sea):Int×Int:=if seaOk n=true then(if (cheapS n).2<0 then(0,3)else((cheapS n).2,0))else(0,50)
@[simp] theorem e_Cheap(n0:Int)(n1:Int)(n2:List Sp)(n3:List Boat)(lab s):den T 40 [.agg [i64 n0,i64 n1, .sl .no 2 (es cSp n2), .sl .no 2 (es cBoat n3)]] lab s=some (.tup [i64 (cheapR (⟨⟨n0,n1⟩,n2,n3⟩:Sea)).1,i64 (cheapR (⟨⟨n0,n1⟩,n2,n3⟩:Sea)).2],s):=by
 rw[den_fn t40 _ _ _ rfl]
 simp only[b40]
 cases h:seaOk (⟨⟨n0,n1⟩,n2,n3⟩:Sea)
 ·have h1:=fun lab loc s=>e_open05_bad n0 n1 n2 n3 h lab loc s
  simp (disch:=first|omega|assumption|decide +kernel|(simp;done)|(simp;omega)|fail) [h,h1,cheapR]
 ·have h1:=fun lab loc s k0=>e_open05 n0 n1 n2 n3 h lab loc s k0
  have h2:=fun lab=>e_cheapest (⟨⟨n0,n1⟩,n2,n3⟩:Sea) h s.length 160 ([(16, .cell [i64 n0,i64 n1, .sl .no 2 (es cSp n2), .sl .no 2 (es cBoat n3)]),(160, .cell (seaCell (⟨⟨n0,n1⟩,n2,n3⟩:Sea)))]::s) (by simp) ((sget_top _ _ _).trans rfl) lab
  by_cases h3:(cheapS (⟨⟨n0,n1⟩,n2,n3⟩:Sea)).2<0
  ·simp (disch:=first|omega|assumption|decide +kernel|(simp;done)|(simp;omega)|fail) [h,h1,h2,h3,cheapR]
  ·simp (disch:=first|omega|assumption|decide +kernel|(simp;done)|(simp;omega)|fail) [h,h1,h2,h3,cheapR]
def calmS(n:Season)(i:Nat):Int:=match n.skies[i]? with
 |some x=>safeS {n.net with wind:=x.wind,cur:=x.cur}
 |none=>0
def holdS(n:Season)(i:Nat):Int:=match n.days[i]? with
 |some w=>if (cheapR {n.sea with weight:=w}).2=0 then 1 else 0
 |none=>0
end Go.Proofs.YtoedpegjoccnlaaGreat.A

/-
  The season at work: may, worth, least, lift, brings.
-/
namespace Go.Proofs.YtoedpegjoccnlaaGreat.A
open Go.Ab
def seasonCell(n:Season):List V:=[i64 n.net.wind.lo,i64 n.net.wind.hi,i64 n.net.cur.lo,i64 n.net.cur.hi, .sl .no 2 (es cSp n.net.grips), .sl .no 2 (es cAnc n.net.anch), .sl .no 5 (es cWal n.net.walls),i64 n.sea.weight.lo,i64 n.sea.weight.hi, .sl .no 2 (es cSp n.sea.places), .sl .no 2 (es cBoat n.sea.boats), .sl .no 4 (es cSky n.skies), .sl .no 1 (es cInts n.follows), .sl .no 1 (es cInt n.first), .sl .no 2 (es cSp n.days),
 i64 (calmS n 0),i64 (calmS n 1),i64 (calmS n 2),i64 (calmS n 3),i64 (holdS n 0),i64 (holdS n 1),i64 (holdS n 2),i64 (holdS n 3),i64 (holdS n 4)]
def mayS(n:Season)(day sky:Nat):Bool:=decide (calmS n sky=1)&&decide (holdS n day=1)
def leastL(f:Int→Int)(l:List Int):Int:=l.foldl (fun a x=>min a (f x)) 2000
def dayLo(n:Season)(day:Nat):Int:=(n.days.getD day default).lo
def worthS(n:Season):Nat→Int→Int
 |0,_=>0
 |r+1,sky=>
   let m:=leastL (worthS n r) (n.follows.getD sky.toNat [])
   if mayS n (n.days.length-(r+1)) sky.toNat=true then max m (dayLo n (n.days.length-(r+1)))else m
theorem rising_mem {l:List Int} {lo hi:Int}(h:rising l lo hi=true): ∀x:Int,x∈l→lo≤x∧x≤hi:=by
 intro x hx
 obtain⟨k,hk,rfl⟩:=List.getElem_of_mem hx
 have:=allB_iff.1 h k (List.mem_range.2 hk)
 simp only[risingAt,Bool.and_eq_true,List.getD,List.getElem?_eq_getElem hk,Option.getD_some]at this
 exact within_iff.1 this.1
theorem follows_ok {n:Season}(h:seasonOk n=true) {k:Nat}(hk:k<n.skies.length): ∃hk2:k<n.follows.length,n.follows[k]≠[]∧ ∀x:Int,x∈n.follows[k]→0≤x∧x<(n.skies.length:Int):=by
 obtain⟨_,_,_,_,h5,_,_,h8,_⟩:=seasonOk_iff.1 h
 have h9:=allB_iff.1 h8 k (List.mem_range.2 hk)
 have hk2:k<n.follows.length:=by omega
 refine⟨hk2,?_⟩
 simp only[skyAt,List.getElem?_eq_getElem hk,List.getElem?_eq_getElem hk2,areSkies,Bool.and_eq_true,decide_eq_true_eq]at h9
 refine⟨fun e=> ?_,fun x hx=> ?_⟩
 ·rw[e]at h9;simp at h9
 ·have:=rising_mem h9.2.2 x hx;omega
theorem first_ok {n:Season}(h:seasonOk n=true):n.first≠[]∧ ∀x:Int,x∈n.first→0≤x∧x<(n.skies.length:Int):=by
 obtain⟨_,_,_,_,_,h6,_⟩:=seasonOk_iff.1 h
 simp only[areSkies,Bool.and_eq_true,decide_eq_true_eq]at h6
 refine⟨fun e=> ?_,fun x hx=> ?_⟩
 ·rw[e]at h6;simp at h6
 ·have:=rising_mem h6.2 x hx;omega
end Go.Proofs.YtoedpegjoccnlaaGreat.A

/-
  skies: the exported functions but Off, Regret.
-/
namespace Go.Proofs.YtoedpegjoccnlaaGreat.A
open Go.Ab
structure Short(n:Season):Prop where
 grips:n.net.grips.length<8796093022208
 anch:n.net.anch.length<8796093022208
 walls:n.net.walls.length<3518437208884
 skies:n.skies.length<4611686018427387904
 follows:n.follows.length<4611686018427387904
 first:n.first.length<4611686018427387904
 days:n.days.length<4611686018427387904
 each: ∀l∈n.follows,l.length<4611686018427387904
@[simp] theorem seasonCell_map(d ls)(n:Season):V.mapAll (dropR d ls) (seasonCell n)=seasonCell n:=by simp[seasonCell]
@[simp] theorem seasonCell_pure(n:Season):V.pureAll (seasonCell n)=true:=by simp[seasonCell]
end Go.Proofs.YtoedpegjoccnlaaGreat.A

/-
  skies: Calm, Holds, May, Lift, Best, brings.
-/
namespace Go.Proofs.YtoedpegjoccnlaaGreat.A
open Go.Ab
def bestS(n:Season):Int:=leastL (worthS n n.days.length) n.first
end Go.Proofs.YtoedpegjoccnlaaGreat.A

/-
  skies: courses.
-/
namespace Go.Proofs.YtoedpegjoccnlaaGreat.A
open Go.Ab
end Go.Proofs.YtoedpegjoccnlaaGreat.A

/-
  skies: Off, Regret.
-/
namespace Go.Proofs.YtoedpegjoccnlaaGreat.A
open Go.Ab
end Go.Proofs.YtoedpegjoccnlaaGreat.A

/-
  skies: brings, Regret.
-/
namespace Go.Proofs.YtoedpegjoccnlaaGreat.A
open Go.Ab
theorem days_ok {n:Season}(h:seasonOk n=true) {k:Nat}(hk:k<n.days.length):0≤n.days[k].lo∧n.days[k].lo≤n.days[k].hi∧n.days[k].hi≤2000:=by
 have h9:=(seasonOk_iff.1 h).2.2.2.2.2.2.2.2
 have:=allB_iff.1 h9 _ (List.getElem_mem hk)
 simp only[spanOk,Bool.and_eq_true,within_iff]at this
 omega
end Go.Proofs.YtoedpegjoccnlaaGreat.A

/-
  law13: span, worth, best, isKnown, may, Example, works.
-/
namespace Go.Proofs.YtoedpegjoccnlaaGreat.A
open Go.Ab
def exSea:Sea:=⟨⟨100,120⟩,[⟨2,6⟩,⟨3,5⟩,⟨4,6⟩],[⟨50,4⟩,⟨60,7⟩,⟨45,2⟩,⟨70,9⟩]⟩
theorem e_Example05(lab s):den T 38 [] lab s=some (.tup [.agg [i64 100,i64 120, .sl .no 2 (es cSp exSea.places), .sl .no 2 (es cBoat exSea.boats)], .agg [i64 100,i64 120, .sl .no 2 (es cSp exSea.places), .sl .no 2 (es cBoat [⟨50,4⟩,⟨45,2⟩])]],s):=by
 have h:=fun lab loc s k0 k1=>e_Copy05 100 120 exSea.places exSea.boats (by decide) (by decide) lab loc s k0 k1
 simp only[exSea,es,List.map,cSp,cBoat]at h
 rw[den_fn t38 _ _ _ rfl]
 simp only[b38]
 simp (maxSteps:=1000000) (disch:=first|omega|assumption|decide +kernel|(simp;done)|(simp;omega)|fail) [run_drawnK,h,exSea,es,cSp,cBoat,elemsOk]
end Go.Proofs.YtoedpegjoccnlaaGreat.A

/-
  law13: Example, works.
-/
namespace Go.Proofs.YtoedpegjoccnlaaGreat.A
open Go.Ab
end Go.Proofs.YtoedpegjoccnlaaGreat.A

/-
  SkiesStep.
-/
namespace Go.Proofs.YtoedpegjoccnlaaGreat.A
open Go.Ab
theorem leastL_ge(f:Int→Int): ∀(l:List Int) (a:Int),(∀x∈l,0≤f x)→0≤a→0≤l.foldl (fun a x=>min a (f x)) a
 |[],a,_,h=>h
 |x::l,a,hl,h=>by
   simp only[List.foldl_cons]
   exact leastL_ge f l _ (fun y hy=>hl y (by simp[hy])) (by have:=hl x (by simp);omega)
theorem leastL_le0(f:Int→Int): ∀(l:List Int) (a:Int),l.foldl (fun a x=>min a (f x)) a≤a
 |[],a=>by simp
 |x::l,a=>by
   simp only[List.foldl_cons]
   have:=leastL_le0 f l (min a (f x))
   omega
theorem worthS_range {n:Season}(hok:seasonOk n=true): ∀(r:Nat) (sky:Int),r≤n.days.length→0≤sky→sky<(n.skies.length:Int)→0≤worthS n r sky∧worthS n r sky≤2000
 |0,_,_,_,_=>by simp[worthS]
 |r+1,sky,hr,h0,h1=>by
   obtain⟨hk2,_,hf⟩:=follows_ok hok (k:=sky.toNat) (by omega)
   have hfo:n.follows.getD sky.toNat []=n.follows[sky.toNat]:=by simp[List.getD,hk2]
   have a1:=leastL_ge (worthS n r) n.follows[sky.toNat] 2000 (fun x hx=>(worthS_range hok r x (by omega) (hf x hx).1 (hf x hx).2).1) (by omega)
   have a2:=leastL_le0 (worthS n r) n.follows[sky.toNat] 2000
   have hd:=days_ok hok (k:=n.days.length-(r+1)) (by omega)
   have hlo:dayLo n (n.days.length-(r+1))=n.days[n.days.length-(r+1)].lo:=by simp[dayLo,show n.days.length-(r+1)<n.days.length by omega]
   simp only[worthS,hfo,hlo,leastL]
   split<;>omega
end Go.Proofs.YtoedpegjoccnlaaGreat.A

/-
  What the arguments read as.
-/
namespace Go.Proofs.YtoedpegjoccnlaaGreat.A
open Go.Ab
set_option maxRecDepth 100000
theorem cells30:Tryz.prog.cellsOf 30=2:=by kernel_rfl
theorem cells84:Tryz.prog.cellsOf 84=2:=by kernel_rfl
theorem cells26:Tryz.prog.cellsOf 26=1:=by kernel_rfl
theorem cells3:Tryz.prog.cellsOf 3=1:=by kernel_rfl
variable {B : TypeId → Nat → Prop} {n : Nat} {vs : List V}
theorem fit_int(h:Fit Tryz.prog B (n+1) 3 vs): ∃x,vs=[i64 x]:=by
 simp only[Fit,Tryz.underlying3]at h
 exact h
theorem fit_sp(h:Fit Tryz.prog B (n+2) 30 vs): ∃x:Sp,vs=cSp x:=by
 simp only[Fit,FitF,Tryz.underlying30,Tryz.underlying3]at h
 obtain⟨_,_,rfl,⟨x,rfl⟩,_,_,rfl,⟨y,rfl⟩,rfl⟩:=h
 exact⟨⟨x,y⟩,rfl⟩
theorem fit_boat(h:Fit Tryz.prog B (n+2) 84 vs): ∃x:Boat,vs=cBoat x:=by
 simp only[Fit,FitF,Tryz.underlying84,Tryz.underlying3]at h
 obtain⟨_,_,rfl,⟨x,rfl⟩,_,_,rfl,⟨y,rfl⟩,rfl⟩:=h
 exact⟨⟨x,y⟩,rfl⟩
theorem es_all {α:Type} {f:α→List V}(l:List (List V))(h: ∀x∈l,∃y,x=f y): ∃l':List α,l=es f l':=by
 obtain⟨l',h1,_⟩:=es_of (Q:=fun _=>True) l fun x hx=>by obtain⟨y,hy⟩:=h x hx;exact⟨y,hy,trivial⟩
 exact⟨l',h1⟩
theorem fit_ints(h:Fit Tryz.prog B (n+2) 26 vs): ∃l:List Int,vs=[.sl .no 1 (es cInt l)]∧B 3 l.length:=by
 rw[Fit,Tryz.underlying26]at h
 simp only at h
 obtain⟨l,rfl,hb,h⟩:=h
 obtain⟨l',rfl⟩:=es_all (f:=cInt) l fun x hx=>by obtain⟨y,hy⟩:=fit_int (h x hx);exact⟨y,hy⟩
 rw[cells3]
 exact⟨l',rfl,by simpa using hb⟩
theorem fit_sps(h:Fit Tryz.prog B (n+3) 31 vs): ∃l:List Sp,vs=[.sl .no 2 (es cSp l)]∧B 30 l.length:=by
 rw[Fit,Tryz.underlying31]at h
 simp only at h
 obtain⟨l,rfl,hb,h⟩:=h
 obtain⟨l',rfl⟩:=es_all (f:=cSp) l fun x hx=>fit_sp (h x hx)
 rw[cells30]
 exact⟨l',rfl,by simpa using hb⟩
theorem fit_boats(h:Fit Tryz.prog B (n+3) 32 vs): ∃l:List Boat,vs=[.sl .no 2 (es cBoat l)]∧B 84 l.length:=by
 rw[Fit,Tryz.underlying32]at h
 simp only at h
 obtain⟨l,rfl,hb,h⟩:=h
 obtain⟨l',rfl⟩:=es_all (f:=cBoat) l fun x hx=>fit_boat (h x hx)
 rw[cells84]
 exact⟨l',rfl,by simpa using hb⟩
def Reach(e:TypeId)(k:Nat):Prop:=k≤maxLen∧k*Tryz.prog.bytesOf e≤reachBytes
theorem bytes30:Tryz.prog.bytesOf 30=16:=by kernel_rfl
theorem bytes84:Tryz.prog.bytesOf 84=16:=by kernel_rfl
theorem bytes26:Tryz.prog.bytesOf 26=24:=by kernel_rfl
theorem bytes3:Tryz.prog.bytesOf 3=8:=by kernel_rfl
end Go.Proofs.YtoedpegjoccnlaaGreat.A

/-
  SkiesPut.
-/
namespace Go.Proofs.YtoedpegjoccnlaaGreat.A
open Go.Ab
end Go.Proofs.YtoedpegjoccnlaaGreat.A

/-
  Copies of seasons; all worths; worse.
-/
namespace Go.Proofs.YtoedpegjoccnlaaGreat.A
open Go.Ab
structure ShortC(n:Season):Prop where
 grips:n.net.grips.length<8796093022208
 anch:n.net.anch.length<8796093022208
 walls:n.net.walls.length<3518437208884
 places:n.sea.places.length<8796093022208
 boats:n.sea.boats.length<8796093022208
 skies:n.skies.length<4398046511104
 follows:n.follows.length<5864062014805
 first:n.first.length<17592186044416
 days:n.days.length<8796093022207
 each: ∀l∈n.follows,l.length<17592186044416
theorem ShortC.short {n:Season}(h:ShortC n):Short n:=by
 obtain⟨h1,h2,h3,h4,h5,h6,h7,h8,h9,h10⟩:=h
 exact⟨by omega,by omega,by omega,by omega,by omega,by omega,by omega,fun l hl=>by have:=h10 l hl;omega⟩
@[simp] theorem es_ints1(l:List (List Int))(x:List Int):es cInts l ++[[.sl .no 1 (es cInt x)]]=es cInts (l ++[x]):=by simp[es]
@[simp] theorem map_cInts(r:Ren)(h:r.c .no= .no)(l):(es cInts l).map (V.mapAll r)=es cInts l:=es_map _ _ (fun _=>by simp[h]) _
@[simp] theorem map_cInts_d(d keep l):(es cInts l).map (V.mapAll (dropR d keep))=es cInts l:=map_cInts _ rfl l
@[simp] theorem map_cInts_f(d k z e l):(es cInts l).map (V.mapAll (frzR d k z e))=es cInts l:=map_cInts _ rfl l
@[simp] theorem map_cInts_r(own d loc ls d' lab l):(es cInts l).map (V.mapAll (renR own d loc ls d' lab))=es cInts l:=map_cInts _ (by cases own<;>rfl) l
@[simp] theorem strip_cInts(l):(es cInts l).map V.stripAll=es cInts l:=es_strip _ (fun _=>by simp) _
@[simp] theorem refs_cInts(own:Bool)(d:Nat)(l):(es cInts l).flatMap (V.refsAll own d)=[]:=es_refs _ _ _ (fun _=>by cases own<;>simp[V.refs,Cap.refs]) _
@[simp] theorem elems_cInts(l):elemsOk (es cInts l) 1=true:=elemsOk_es _ _ (fun _=>by simp) _
end Go.Proofs.YtoedpegjoccnlaaGreat.A

/-
  law13: all, worse.
-/
namespace Go.Proofs.YtoedpegjoccnlaaGreat.A
open Go.Ab
def dayL(n:Season)(day:Nat):List Int:=(List.range n.skies.length).map fun(k:Nat)=>worthS n (n.days.length-day) (k:Int)
def allS(n:Season):List Int:=(List.range n.days.length).flatMap (dayL n)
theorem dayL_len(n:Season)(day:Nat):(dayL n day).length=n.skies.length:=by simp[dayL]
def leL:List Int→List Int→Prop
 |[],_=>True
 |_::_,[]=>False
 |x::k,y::l=>x≤y∧leL k l
theorem leL_app: ∀ {a b c d:List Int},a.length=b.length→leL a b→leL c d→leL (a ++c) (b ++d)
 |[],[],_,_,_,_,h=>h
 |x::a,y::b,c,d,hl,h1,h2=>⟨h1.1,leL_app (by simpa using hl) h1.2 h2⟩
theorem leL_map(f g:Nat→Int): ∀l:List Nat,(∀x∈l,f x≤g x)→leL (l.map f) (l.map g)
 |[],_=>trivial
 |x::l,h=>⟨h x (by simp),leL_map f g l fun y hy=>h y (by simp[hy])⟩
theorem leL_flat(f g:Nat→List Int): ∀l:List Nat,(∀x∈l,(f x).length=(g x).length∧leL (f x) (g x))→leL (l.flatMap f) (l.flatMap g)
 |[],_=>trivial
 |x::l,h=>leL_app (h x (by simp)).1 (h x (by simp)).2 (leL_flat f g l fun y hy=>h y (by simp[hy]))
theorem leL_more: ∀ {a b c:List Int},leL a b→leL a (b ++c)
 |[],_,_,_=>trivial
 |_::_,[],_,h=>by cases h
 |_::_,_::_,_,h=>⟨h.1,leL_more h.2⟩
structure Worse(n o:Season):Prop where
 skies:n.skies.length=o.skies.length
 days:n.days.length≤o.days.length
 le: ∀day sky:Nat,day<n.days.length→sky<n.skies.length→worthS n (n.days.length-day) sky≤worthS o (o.days.length-day) sky
 best:bestS n≤bestS o
theorem Worse.all {n o:Season}(h:Worse n o):leL (allS n) (allS o):=by
 have e:List.range o.days.length=List.range n.days.length ++(List.range (o.days.length-n.days.length)).map (n.days.length+ ·):=by
  have:=List.range_add (n:=n.days.length) (m:=o.days.length-n.days.length)
  rw[show n.days.length+(o.days.length-n.days.length)=o.days.length by have:=h.days;omega]at this
  exact this
 rw[allS,allS,e,List.flatMap_append]
 refine leL_more (leL_flat _ _ _ fun day hd=>⟨by rw[dayL_len,dayL_len,h.skies],?_⟩)
 rw[dayL,dayL,←h.skies]
 exact leL_map _ _ _ fun sky hk=>h.le day sky (List.mem_range.1 hd) (List.mem_range.1 hk)
end Go.Proofs.YtoedpegjoccnlaaGreat.A

/-
  What the reach of the arguments says of a season's copy.
-/
namespace Go.Proofs.YtoedpegjoccnlaaGreat.A
open Go.Ab
end Go.Proofs.YtoedpegjoccnlaaGreat.A

/-
  When no worth is greater; SkiesDay.
-/
namespace Go.Proofs.YtoedpegjoccnlaaGreat.A
open Go.Ab
@[simp] theorem frzE_tok(l e loc r n):frzE l e loc r (some (.tok n))=(e,loc::r):=rfl
theorem leastL_le(f:Int→Int) {l:List Int} {x:Int}(hx:x∈l):leastL f l≤f x:=by
 have: ∀(l:List Int) (a:Int),x∈l→l.foldl (fun a x=>min a (f x)) a≤f x:=by
  intro l
  induction l with
  |nil=>intro a h;cases h
  |cons y l ih=>
    intro a h
    simp only[List.foldl_cons]
    rcases List.mem_cons.1 h with rfl|h
    ·have:=leastL_le0 f l (min a (f x));omega
    ·exact ih _ h
 exact this l 2000 hx
theorem leastL_ge'(g:Int→Int)(b:Int)(hb:b≤2000) {l:List Int}(h: ∀x∈l,b≤g x):b≤leastL g l:=by
 have: ∀(l:List Int) (a:Int),b≤a→(∀x∈l,b≤g x)→b≤l.foldl (fun a x=>min a (g x)) a:=by
  intro l
  induction l with
  |nil=>intro a h _;exact h
  |cons y l ih=>
    intro a h h2
    simp only[List.foldl_cons]
    have:=h2 y (by simp)
    exact ih _ (by omega) (fun x hx=>h2 x (by simp[hx]))
 exact this l 2000 hb h
theorem leastL_mono {f g:Int→Int} {l l':List Int}(h: ∀x∈l',x∈l∧f x≤g x):leastL f l≤leastL g l':=
 leastL_ge' g _ (leastL_le0 f l 2000) fun x hx=>Int.le_trans (leastL_le f (h x hx).1) (h x hx).2
theorem worth_mono {n o:Season}(hn:seasonOk n=true)(ho:seasonOk o=true)(hsk:n.skies.length=o.skies.length)(c:Nat)(hD:n.days.length+c=o.days.length)
 (hfol: ∀k:Nat,k<n.skies.length→ ∀y:Int,y∈o.follows.getD k []→y∈n.follows.getD k [])
 (hmay: ∀d k:Nat,d<n.days.length→k<n.skies.length→mayS n d k=true→mayS o d k=true∧dayLo n d≤dayLo o d):
 ∀(r:Nat) (sky:Int),r≤n.days.length→0≤sky→sky<(n.skies.length:Int)→worthS n r sky≤worthS o (r+c) sky
 |0,sky,_,h0,h1=>by
   have:=(worthS_range ho c sky (by omega) h0 (by omega)).1
   simpa [worthS]using this
 |r+1,sky,hr,h0,h1=>by
   obtain⟨hk2,_,hf⟩:=follows_ok ho (k:=sky.toNat) (by omega)
   have hfo:o.follows.getD sky.toNat []=o.follows[sky.toNat]:=by simp[List.getD,hk2]
   have hl:leastL (worthS n r) (n.follows.getD sky.toNat [])≤leastL (worthS o (r+c)) (o.follows.getD sky.toNat []):=
    leastL_mono fun x hx=>⟨hfol _ (by omega) x hx,worth_mono hn ho hsk c hD hfol hmay r x (by omega) (hf x (by rw[hfo]at hx;exact hx)).1 (by have:=(hf x (by rw[hfo]at hx;exact hx)).2;omega)⟩
   have hd:n.days.length-(r+1)=o.days.length-(r+1+c):=by omega
   have hm:=hmay (n.days.length-(r+1)) sky.toNat (by omega) (by omega)
   rw[show r+1+c=(r+c)+1 by omega,worthS,worthS,show o.days.length-(r+c+1)=n.days.length-(r+1)by omega]
   by_cases h:mayS n (n.days.length-(r+1)) sky.toNat=true
   ·obtain⟨a,b⟩:=hm h
    simp only[h,a,if_true]
    omega
   ·simp only[h,Bool.false_eq_true,if_false]
    split<;>omega
theorem Worse.of {n o:Season}(hn:seasonOk n=true)(ho:seasonOk o=true)(hsk:n.skies.length=o.skies.length)(c:Nat)(hD:n.days.length+c=o.days.length)
 (hfol: ∀k:Nat,k<n.skies.length→ ∀y:Int,y∈o.follows.getD k []→y∈n.follows.getD k []) (hfirst: ∀y:Int,y∈o.first→y∈n.first)
 (hmay: ∀d k:Nat,d<n.days.length→k<n.skies.length→mayS n d k=true→mayS o d k=true∧dayLo n d≤dayLo o d):Worse n o where
 skies:=hsk
 days:=by omega
 le:=fun day sky hd hk=>by
  have:=worth_mono hn ho hsk c hD hfol hmay (n.days.length-day) sky (by omega) (by omega) (by omega)
  rwa [show n.days.length-day+c=o.days.length-day by omega]at this
 best:=by
  have hf:=(first_ok hn).2
  refine leastL_mono fun x hx=>⟨hfirst x hx,?_⟩
  have:=worth_mono hn ho hsk c hD hfol hmay n.days.length x (Nat.le_refl _) (hf x (hfirst x hx)).1 (hf x (hfirst x hx)).2
  rwa [hD]at this
end Go.Proofs.YtoedpegjoccnlaaGreat.A

/-
  What makes a crew hold, and a net safe, still.
-/
namespace Go.Proofs.YtoedpegjoccnlaaGreat.A
open Go.Ab
@[simp] theorem take_set_len {α:Type}(l:List α)(i:Nat)(x:α):(l.set i x).take l.length=l.set i x:=List.take_of_length_le (by simp)
@[simp] theorem take_map_len {α β:Type}(f:α→β)(l:List α):(l.map f).take l.length=l.map f:=List.take_of_length_le (by simp)
theorem boatAt_ok {n:Sea}(hok:seaOk n=true)(b:Int):0≤(boatAt n b).pence:=by
 unfold boatAt
 by_cases h:b.toNat<n.boats.length
 ·have:=(seaOk_iff.1 hok).2.2.2.2.1 _ (List.getElem_mem h)
  simp only[boatOk,Bool.and_eq_true,within_iff]at this
  simp only[List.getD,List.getElem?_eq_getElem h,Option.getD_some];exact this.2.1
 ·simp only[List.getD,List.getElem?_eq_none (Nat.le_of_not_lt h),Option.getD_none]
  decide
theorem cost_ge {n:Sea}(hok:seaOk n=true)(c:List Int):0≤costS n c:=by
 have: ∀(c:List Int) (a:Int),0≤a→0≤c.foldl (fun a b=>a+(boatAt n b).pence) a:=by
  intro c
  induction c with
  |nil=>intro a h;exact h
  |cons x c ih=>intro a h;rw[List.foldl_cons];have:=boatAt_ok hok x;exact ih _ (by omega)
 exact this c 0 (by omega)
end Go.Proofs.YtoedpegjoccnlaaGreat.A

/-
  bits.OnesCount of a few bits.
-/
namespace Go.Proofs.YtoedpegjoccnlaaGreat.A
open Go.Ab
def uW(a:Int):Int:=IntKind.u64.wrap a
def uA(a b:Int):Int:=IntKind.u64.wrap (BitVec.ofInt IntKind.u64.bits a&&&BitVec.ofInt IntKind.u64.bits b).toNat
def iA(a b:Int):Int:=IntKind.i64.wrap (BitVec.ofInt IntKind.i64.bits a&&&BitVec.ofInt IntKind.i64.bits b).toNat
def uS(a:Int)(n:Nat):Int:=a.fdiv (2^min n IntKind.u64.bits)
theorem u_add(a b:Int):bin .add (.int .u64 a) (.int .u64 b)=some (.int .u64 (uW (a+b))):=by simp[bin,uW]
theorem u_and(a b:Int):bin .and (.int .u64 a) (.int .u64 b)=some (.int .u64 (uA a b)):=by simp[bin,uA]
theorem i_and(a b:Int):bin .and (.int .i64 a) (.int .i64 b)=some (.int .i64 (iA a b)):=by simp[bin,iA]
theorem u_shr1(a:Int):bin .shr (.int .u64 a) (.int .u64 1)=some (.int .u64 (uS a 1)):=rfl
theorem u_shr2(a:Int):bin .shr (.int .u64 a) (.int .u64 2)=some (.int .u64 (uS a 2)):=rfl
theorem u_shr4(a:Int):bin .shr (.int .u64 a) (.int .u64 4)=some (.int .u64 (uS a 4)):=rfl
theorem u_shr8(a:Int):bin .shr (.int .u64 a) (.int .u64 8)=some (.int .u64 (uS a 8)):=rfl
theorem u_shr16(a:Int):bin .shr (.int .u64 a) (.int .u64 16)=some (.int .u64 (uS a 16)):=rfl
theorem u_shr32(a:Int):bin .shr (.int .u64 a) (.int .u64 32)=some (.int .u64 (uS a 32)):=rfl
def ones1(a:Int):Int:=uW (uA (uS a 1) 6148914691236517205+uA a 6148914691236517205)
def ones2(a:Int):Int:=uW (uA (uS a 2) 3689348814741910323+uA a 3689348814741910323)
def ones3(a:Int):Int:=uA (uW (uS a 4+a)) 1085102592571150095
def ones4(a:Int):Int:=uW (a+uS a 8)
def ones5(a:Int):Int:=uW (a+uS a 16)
def ones6(a:Int):Int:=uW (a+uS a 32)
def onesE(a:Int):Int:=iA (IntKind.i64.wrap (ones6 (ones5 (ones4 (ones3 (ones2 (ones1 a))))))) 127
def popN(n:Nat):Nat:=((List.range 6).filter fun i=>n.testBit i).length
theorem ones_pop: ∀n:Nat,n<64→onesE (n:Int)=(popN n:Int):=by decide +kernel
set_option maxHeartbeats 1000000 in
theorem e_Ones64(a:Int)(lab s):den T 146 [.int .u64 a] lab s=some (i64 (onesE a),s):=by
 rw[den_fn t146 _ _ _ rfl]
 simp only[b146]
 simp (disch:=first|omega|assumption|decide +kernel|(simp;done)|(simp;omega)|fail) [u_add,u_and,i_and,u_shr1,u_shr2,u_shr4,u_shr8,u_shr16,u_shr32,-bin_shr,-bin_and,-bin_add,onesE,ones1,ones2,ones3,ones4,ones5,ones6]
theorem e_Ones(n:Nat)(hn:n<64)(lab s):den T 122 [.int .u64 (n:Nat)] lab s=some (i64 (popN n:Nat),s):=by
 have h:=fun lab s=>e_Ones64 (n:Nat) lab s
 rw[ones_pop n hn]at h
 rw[den_fn t122 _ _ _ rfl]
 simp only[b122]
 simp (disch:=first|omega|assumption|decide +kernel|(simp;done)|(simp;omega)|fail) [h]
end Go.Proofs.YtoedpegjoccnlaaGreat.A

/-
  lifts: a crew; sailing.
-/
namespace Go.Proofs.YtoedpegjoccnlaaGreat.A
open Go.Ab
def orN(a b:Nat):Nat:=a|||b
def powN(n:Nat):Nat:=2^n
theorem bv_nat(a:Nat):(BitVec.ofInt 64 (a:Int))=BitVec.ofNat 64 a:=by simp
theorem wrap_nat {a:Nat}(h:a<4294967296):IntKind.i64.wrap (a:Int)=a:=wi _ (by omega) (by omega)
theorem bor {a b:Nat}(h:a<65536)(h2:b<65536):bin .or (i64 (a:Nat)) (i64 (b:Nat))=some (i64 ((orN a b:Nat):Int)):=by
 rw[bin_or]
 change some (i64 (IntKind.i64.wrap ((BitVec.ofInt 64 (a:Int)|||BitVec.ofInt 64 (b:Int)).toNat:Int)))=_
 rw[bv_nat,bv_nat]
 have e:((BitVec.ofNat 64 a|||BitVec.ofNat 64 b).toNat)=a|||b:=by
  rw[BitVec.toNat_or,BitVec.toNat_ofNat,BitVec.toNat_ofNat,Nat.mod_eq_of_lt (by omega),Nat.mod_eq_of_lt (by omega)]
 have:=Nat.or_lt_two_pow (n:=16) h h2
 rw[e,wrap_nat (by omega)];rfl
theorem bshl {n:Nat}(hn:n<32):bin .shl (i64 1) (i64 (n:Nat))=some (i64 ((powN n:Nat):Int)):=by
 have h2: ¬(n:Int)<0:=by omega
 rw[bin_shl,if_neg h2,Int.toNat_natCast,show min n IntKind.i64.bits=n by have:IntKind.i64.bits=64:=rfl;omega]
 have:(2:Nat)^n<2^32:=Nat.pow_lt_pow_right (by decide) hn
 have e:((1:Int)*2^n)=((2^n:Nat):Int):=by push_cast;omega
 rw[e,wrap_nat (by omega)];rfl
abbrev seaV(n:Sea):List V:=[i64 n.weight.lo,i64 n.weight.hi, .sl .no 2 (es cSp n.places), .sl .no 2 (es cBoat n.boats)]
structure CrewOk(n:Sea)(c:List Int):Prop where
 r: ∀x∈c,0≤x∧x<(n.boats.length:Int)
 nd:c.Nodup
 len:c.length=n.places.length
def maskN(l:List Nat):Nat:=l.foldl (fun g x=>orN g (powN x)) 0
def maskC(c:List Int):Nat:=c.foldl (fun g x=>orN g (powN x.toNat)) 0
theorem pop1: ∀a,a<6→popN (maskN [a])=1:=by decide +kernel
theorem pop2: ∀a,a<6→ ∀b,b<6→a≠b→popN (maskN [a,b])=2:=by decide +kernel
theorem pop3b:((List.range 6).all fun a=>(List.range 6).all fun b=>(List.range 6).all fun c=>a==b||a==c||b==c||popN (maskN [a,b,c])==3)=true:=by decide +kernel
theorem pop4b:((List.range 6).all fun a=>(List.range 6).all fun b=>(List.range 6).all fun c=>(List.range 6).all fun d=>a==b||a==c||a==d||b==c||b==d||c==d||popN (maskN [a,b,c,d])==4)=true:=by decide +kernel
theorem pop3(a b c:Nat)(ha:a<6)(hb:b<6)(hc:c<6)(h1:a≠b)(h2:a≠c)(h3:b≠c):popN (maskN [a,b,c])=3:=by
 have h:=pop3b
 simp only[List.all_eq_true,List.mem_range,Bool.or_eq_true,beq_iff_eq]at h
 have:=h a ha b hb c hc
 omega
theorem pop4(a b c d:Nat)(ha:a<6)(hb:b<6)(hc:c<6)(hd:d<6)(h1:a≠b)(h2:a≠c)(h3:a≠d)(h4:b≠c)(h5:b≠d)(h6:c≠d):popN (maskN [a,b,c,d])=4:=by
 have h:=pop4b
 simp only[List.all_eq_true,List.mem_range,Bool.or_eq_true,beq_iff_eq]at h
 have:=h a ha b hb c hc d hd
 omega
theorem crew_pop {c:List Int}(hr: ∀x∈c,0≤x∧x<6)(hn:c.Nodup)(hl:c.length≤4):popN (maskC c)=c.length:=by
 match c,hl with
 |[],_=>rfl
 |[a],_=>
   have h1:=hr a (by simp)
   exact pop1 a.toNat (by omega)
 |[a,b],_=>
   have h1:=hr a (by simp)
   have h2:=hr b (by simp)
   simp only[List.nodup_cons,List.mem_cons,List.not_mem_nil,or_false]at hn
   exact pop2 a.toNat (by omega) b.toNat (by omega) (by omega)
 |[a,b,c],_=>
   have h1:=hr a (by simp)
   have h2:=hr b (by simp)
   have h3:=hr c (by simp)
   simp only[List.nodup_cons,List.mem_cons,List.not_mem_nil,or_false,not_or]at hn
   exact pop3 a.toNat b.toNat c.toNat (by omega) (by omega) (by omega) (by omega) (by omega) (by omega)
 |[a,b,c,d],_=>
   have h1:=hr a (by simp)
   have h2:=hr b (by simp)
   have h3:=hr c (by simp)
   have h4:=hr d (by simp)
   simp only[List.nodup_cons,List.mem_cons,List.not_mem_nil,or_false,not_or]at hn
   exact pop4 a.toNat b.toNat c.toNat d.toNat (by omega) (by omega) (by omega) (by omega) (by omega) (by omega) (by omega) (by omega) (by omega) (by omega)
 |_::_::_::_::_::_,hh=>simp at hh
theorem mask_lt {c:List Int}(hr: ∀x∈c,0≤x∧x<6): ∀ {g:Nat},g<64→c.foldl (fun g x=>orN g (powN x.toNat)) g<64:=by
 induction c with
 |nil=>intro g hg;exact hg
 |cons x c ih=>
   intro g hg
   have hx:=hr x (by simp)
   have:powN x.toNat<2^6:=by unfold powN;exact Nat.pow_lt_pow_right (by decide) (by omega)
   exact ih (fun y hy=>hr y (by simp[hy])) (Nat.or_lt_two_pow (n:=6) hg this)
set_option maxHeartbeats 4000000 in
theorem e_isCrew05(n:Sea)(hok:seaOk n=true)(c:List Int)(hc:CrewOk n c)(lab s):den T 91 [.agg (seaV n), .sl .no 1 (es cInt c)] lab s=some (.bool true,s):=by
 obtain⟨h1,h2,h3,h4,h5,h6,h7⟩:=seaOk_iff.1 hok
 have hl:=hc.len
 have hr6: ∀x∈c,0≤x∧x<6:=fun x hx=>by have:=hc.r x hx;omega
 have hpop:=crew_pop hr6 hc.nd (by omega)
 have hmk:maskC c<64:=mask_lt hr6 (by omega)
 have hon:=fun lab s=>e_Ones (maskC c) hmk lab s
 have key:=loop_fold (T:=T) (live:=[1,2,5,8,9,10]) (keep:=[32,560]) (b:=d91l0) c (fun _ (g:Nat)=>g<64) (fun g x=>orN g (powN x.toNat))
  (fun k g=>[(1, .sl .no 1 (es cInt c)),(2, .ptr s.length 32 0),(5,i64 (g:Nat)),(8, .sl .no 1 (es cInt c)),(9,i64 c.length),(10,i64 (k:Nat))]) (fun _ _=>[(32, .cell (seaV n))]::s)
  (fun g=>(.exit 0,[(1, .sl .no 1 (es cInt c)),(2, .ptr s.length 32 0),(5,i64 (g:Nat)),(8, .sl .no 1 (es cInt c)),(9,i64 c.length),(10,i64 c.length),(11, .bool false)],[(32, .cell (seaV n))]::s))
  (by simp) ?_ ?_ ?_ 0 (by decide) [(1, .sl .no 1 (es cInt c)),(2, .ptr s.length 32 0),(5,i64 0),(8, .sl .no 1 (es cInt c)),(9,i64 c.length),(10,i64 0)] ([(32, .cell (seaV n))]::s) (by simp) (by simp)
 ·change Run T b91l0 _ _=some (_,[_,_,(5,i64 (maskC c:Nat)),_,_,_,_],_)at key
  generalize maskC c=g at*
  have hcp:(popN g:Int)=c.length:=by omega
  simp only[hl]at key hcp hpop
  have hw:IntKind.u64.wrap (g:Int)=(g:Nat):=by
   have: ∀g:Nat,g<64→IntKind.u64.wrap (g:Int)=(g:Nat):=by decide +kernel
   exact this g hmk
  rw[den_fn t91 _ _ _ rfl]
  simp only[b91]
  simp (maxSteps:=1000000) (disch:=first|omega|assumption|decide +kernel|(simp;done)|(simp;omega)|fail) [run_drawnK,orSlow_none,key,hon,hcp,hl,hw,hpop]
 ·intro k g hk hg
  have hk2:(k:Int)<c.length:=by omega
  have hx:=hc.r _ (List.getElem_mem hk)
  have hx6:=hr6 _ (List.getElem_mem hk)
  generalize hX:c[k]=x at*
  obtain⟨xn,rfl⟩: ∃xn:Nat,x=xn:=⟨x.toNat,by omega⟩
  have s1:=bshl (n:=xn) (by omega)
  have p6:powN xn<2^6:=by unfold powN;exact Nat.pow_lt_pow_right (by decide) (by omega)
  have s2:=bor (a:=g) (b:=powN xn) (by omega) (by omega)
  have w1:IntKind.i64.wrap ((n.boats.length:Int)-1)=(n.boats.length:Int)-1:=wi _ (by omega) (by omega)
  have hwi:wiB (xn:Nat) 0 ((n.boats.length:Int)-1)=true:=within_iff.2 (by omega)
  have tn:((xn:Nat):Int).toNat=xn:=by omega
  simp (maxSteps:=1000000) (disch:=first|omega|assumption|decide +kernel|(simp;done)|(simp;omega)|fail) [run_drawnK,orSlow_none,hk,hk2,hX,w1,hwi,s1,s2,tn,-bin_shl,-bin_or,wk k (by omega)]
 ·intro k g hk hg
  have hx6:=hr6 _ (List.getElem_mem hk)
  have:powN c[k].toNat<2^6:=by unfold powN;exact Nat.pow_lt_pow_right (by decide) (by omega)
  exact Nat.or_lt_two_pow (n:=6) hg this
 ·intro g hg
  simp
theorem e_sailing(n:Sea)(hok:seaOk n=true)(c:List Int)(hc:CrewOk n c)(lab)(loc:Ab.Loc)(s:Stk)(k0:loc.get lab=none):
 den T 73 [.agg (seaV n), .sl .no 1 (es cInt c)] lab (loc::s)=some (.tup [.ptr s.length lab 0,i64 0],loc.put lab (.cell (seaCell n))::s):=by
 have ho:=fun lab loc s k0=>e_open05 n.weight.lo n.weight.hi n.places n.boats hok lab loc s k0
 have hi:=fun lab s=>e_isCrew05 n hok c hc lab s
 rw[den_fn t73 _ _ _ rfl]
 simp only[b73]
 simp (maxSteps:=1000000) (disch:=first|omega|assumption|decide +kernel|(simp;done)|(simp;omega)|fail) [run_drawnK,orSlow_none,ho,hi,k0,seaCell]
end Go.Proofs.YtoedpegjoccnlaaGreat.A

/-
  lifts.Safe.
-/
namespace Go.Proofs.YtoedpegjoccnlaaGreat.A
open Go.Ab
def mostAt(n:Sea)(c:List Int)(i:Nat):Int:=match n.places[i]? with
 |some p=>if 0<n.weight.lo then min p.hi ((12*(boatAt n (c.getD i 0)).carry).tdiv n.weight.lo)else p.hi
 |none=>0
def lowAt(n:Sea)(i:Nat):Int:=match n.places[i]? with
 |some p=>p.lo
 |none=>0
def safeStep5(n:Sea)(c:List Int)(m:Int)(i:Nat):Int×Bool:=if mostAt n c i<lowAt n i then(m,false)else(m+mostAt n c i,true)
def safeF5(n:Sea)(c:List Int):Int×Bool:=foldB (safeStep5 n c) (List.range c.length) 0
def safe05(n:Sea)(c:List Int):Int:=if holdsS n c=true then 1 else if (safeF5 n c).2=true then(if (safeF5 n c).1<12 then 2 else 3)else 2
theorem mostAt_range {n:Sea}(hok:seaOk n=true)(c:List Int)(i:Nat): ¬mostAt n c i<lowAt n i→0≤mostAt n c i∧mostAt n c i≤12:=by
 obtain⟨h1,h2,h3,h4,h5,h6,h7⟩:=seaOk_iff.1 hok
 unfold mostAt lowAt
 cases hp:n.places[i]? with
 |none=>simp
 |some p=>
   have:=spanOk_iff.1 (h4 p (List.mem_of_getElem? hp))
   simp only
   split<;>omega
set_option maxHeartbeats 8000000 in
theorem safe_l0(n:Sea)(hok:seaOk n=true)(c:List Int)(hc:CrewOk n c)(s:Stk):
 ∃g:Ab.Loc,Run T b44l0 [(2, .ptr s.length 32 0),(8,i64 0),(25, .sl .no 1 (es cInt c)),(26,i64 c.length),(27,i64 0)] ([(32, .cell (seaV n)),(256, .cell (seaCell n))]::s)=
  if (safeF5 n c).2=true then some (.exit 0,[(2, .ptr s.length 32 0),(8,i64 (safeF5 n c).1),(25, .sl .no 1 (es cInt c)),(26,i64 c.length),(27,i64 c.length),(28, .bool false)],[(32, .cell (seaV n)),(256, .cell (seaCell n))]::s)
  else some (.ret,[(4,i64 2),(5,i64 0)],g::s):=by
 obtain⟨h1,h2,h3,h4,h5,h6,h7⟩:=seaOk_iff.1 hok
 have hl:=hc.len
 refine loop_list_e (T:=T) (γ:=Ab.Loc) (live:=[2,8,25,26,27]) (keep:=[32,256,384]) (b:=d44l0) (List.range c.length) (fun k (m:Int)=>0≤m∧m≤12*k)
  (fun k m=>[(2, .ptr s.length 32 0),(8,i64 m),(25, .sl .no 1 (es cInt c)),(26,i64 c.length),(27,i64 (k:Nat))]) (fun _ _=>[(32, .cell (seaV n)),(256, .cell (seaCell n))]::s)
  (safeStep5 n c) (fun g _=>(.ret,[(4,i64 2),(5,i64 0)],g::s))
  (fun m=>(.exit 0,[(2, .ptr s.length 32 0),(8,i64 m),(25, .sl .no 1 (es cInt c)),(26,i64 c.length),(27,i64 c.length),(28, .bool false)],[(32, .cell (seaV n)),(256, .cell (seaCell n))]::s))
  (by simp) (by simp) ?_ ?_ 0 (by simp) _ _ (by simp) (by simp[seaCell])
 ·intro k m hk hm
  simp only[List.length_range]at hk
  simp only[List.getElem_range]
  have hk2:(k:Int)<c.length:=by omega
  have hkp:k<n.places.length:=by omega
  have hkp2:(k:Int)<n.places.length:=by omega
  have hP:=spanOk_iff.1 (h4 _ (List.getElem_mem hkp))
  have hx:=hc.r _ (List.getElem_mem hk)
  have hg:c.getD k 0=c[k]:=by simp[List.getD,hk]
  have hxl:c[k].toNat<n.boats.length:=by omega
  have hB:=h5 _ (List.getElem_mem hxl)
  have hb:boatAt n c[k]=n.boats[c[k].toNat]:=by simp[boatAt,List.getD,hxl]
  have hmr:=mostAt_range hok c k
  have hw0:=spanOk_iff.1 h1
  have em:mostAt n c k=if 0<n.weight.lo then min n.places[k].hi ((12*n.boats[c[k].toNat].carry).tdiv n.weight.lo)else n.places[k].hi:=by unfold mostAt;rw[List.getElem?_eq_getElem hkp,hg,hb]
  have el:lowAt n k=n.places[k].lo:=by unfold lowAt;rw[List.getElem?_eq_getElem hkp]
  unfold safeStep5
  rw[em,el]at hmr⊢
  clear em el hg hb
  generalize hPP:n.places[k]=P at*
  generalize hX:c[k]=x at*
  obtain⟨xn,rfl⟩: ∃xn:Nat,x=xn:=⟨x.toNat,by omega⟩
  simp only[Int.toNat_natCast]at hxl hB hmr⊢
  have hxl2:(xn:Int)<n.boats.length:=by omega
  generalize hBB:n.boats[xn]=B at*
  have hB2:0≤B.carry∧B.carry≤999:=by
   simp only[boatOk,Bool.and_eq_true]at hB
   exact within_iff.1 hB.1
  have w1:IntKind.i64.wrap (12*B.carry)=12*B.carry:=wi _ (by omega) (by omega)
  by_cases hw:0<n.weight.lo
  ·have hwn: ¬n.weight.lo=0:=by omega
   simp only[if_pos hw]at hmr⊢
   have hq:=Int.tdiv_nonneg (a:=12*B.carry) (b:=n.weight.lo) (by omega) (by omega)
   have hq2:(12*B.carry).tdiv n.weight.lo≤12*B.carry:=by
    rw[Int.tdiv_eq_ediv_of_nonneg (by omega)]
    exact Int.ediv_le_self _ (by omega)
   have w2:IntKind.i64.wrap ((12*B.carry).tdiv n.weight.lo)=(12*B.carry).tdiv n.weight.lo:=wi _ (by omega) (by omega)
   by_cases hlt:min P.hi ((12*B.carry).tdiv n.weight.lo)<P.lo
   ·rw[if_pos hlt]
    refine⟨fun hf=>absurd hf (by simp),fun _=>⟨[(32, .cell (seaV n)),(256, .cell (seaCell n)),(176, .cell [i64 P.lo,i64 (min P.hi ((12*B.carry).tdiv n.weight.lo))])],?_⟩⟩
    simp (maxSteps:=1000000) (disch:=first|omega|assumption|decide +kernel|(simp;done)|(simp;omega)|fail) [run_drawnK,orSlow_none,hk,hk2,hkp,hkp2,hPP,hX,hxl,hxl2,hBB,w1,w2,hw,hwn,hlt,seaCell]
   ·rw[if_neg hlt]
    have hmr:=hmr hlt
    have w3:IntKind.i64.wrap (m+min P.hi ((12*B.carry).tdiv n.weight.lo))=m+min P.hi ((12*B.carry).tdiv n.weight.lo):=wi _ (by omega) (by omega)
    refine⟨fun _=>⟨?_,by simp only;omega⟩,fun hf=>absurd hf (by simp)⟩
    simp (maxSteps:=1000000) (disch:=first|omega|assumption|decide +kernel|(simp;done)|(simp;omega)|fail) [run_drawnK,orSlow_none,hk,hk2,hkp,hkp2,hPP,hX,hxl,hxl2,hBB,w1,w2,w3,hw,hwn,hlt,seaCell,wk k (by omega)]
  ·simp only[if_neg hw]at hmr⊢
   have hlt: ¬P.hi<P.lo:=by omega
   rw[if_neg hlt]
   have w3:IntKind.i64.wrap (m+P.hi)=m+P.hi:=wi _ (by omega) (by omega)
   refine⟨fun _=>⟨?_,by simp only;omega⟩,fun hf=>absurd hf (by simp)⟩
   simp (maxSteps:=1000000) (disch:=first|omega|assumption|decide +kernel|(simp;done)|(simp;omega)|fail) [run_drawnK,orSlow_none,hk,hk2,hkp,hkp2,hPP,hX,hxl,hxl2,hBB,w1,w3,hw,hlt,seaCell,wk k (by omega)]
 ·intro m hm
  simp
set_option maxHeartbeats 4000000 in
theorem e_Safe05(n:Sea)(hok:seaOk n=true)(c:List Int)(hc:CrewOk n c)(lab s):den T 44 [.agg (seaV n), .sl .no 1 (es cInt c)] lab s=some (.tup [i64 (safe05 n c),i64 0],s):=by
 obtain⟨h1,h2,h3,h4,h5,h6,h7⟩:=seaOk_iff.1 hok
 have hl:=hc.len
 have hsa:=fun lab loc s k0=>e_sailing n hok c hc lab loc s k0
 have hho:=fun lab=>e_holds05 n hok c hc.r (by omega) s.length 256 ([(32, .cell (seaV n)),(256, .cell (seaCell n))]::s) (by simp) (by simp) lab
 obtain⟨g,hl0⟩:=safe_l0 n hok c hc s
 unfold safe05
 generalize safeF5 n c=r at*
 obtain⟨m,b⟩:=r
 simp only at hl0⊢
 cases hh:holdsS n c<;>rw[hh]at hho
 ·simp only[Bool.false_eq_true,if_false]
  cases b
  ·simp only[Bool.false_eq_true,if_false]at hl0⊢
   rw[den_fn t44 _ _ _ rfl]
   simp only[b44]
   simp (maxSteps:=1000000) (disch:=first|omega|assumption|decide +kernel|(simp;done)|(simp;omega)|fail) [run_drawnK,orSlow_none,hsa,hho,hl0]
  ·simp only[if_true]at hl0⊢
   by_cases hm:m<12
   ·rw[den_fn t44 _ _ _ rfl]
    simp only[b44]
    simp (maxSteps:=1000000) (disch:=first|omega|assumption|decide +kernel|(simp;done)|(simp;omega)|fail) [run_drawnK,orSlow_none,hsa,hho,hl0,hm]
   ·rw[den_fn t44 _ _ _ rfl]
    simp only[b44]
    simp (maxSteps:=1000000) (disch:=first|omega|assumption|decide +kernel|(simp;done)|(simp;omega)|fail) [run_drawnK,orSlow_none,hsa,hho,hl0,hm]
 ·simp only[if_true]
  rw[den_fn t44 _ _ _ rfl]
  simp only[b44]
  simp (maxSteps:=1000000) (disch:=first|omega|assumption|decide +kernel|(simp;done)|(simp;omega)|fail) [run_drawnK,orSlow_none,hsa,hho]
end Go.Proofs.YtoedpegjoccnlaaGreat.A

/-
  Crews by the reference; surer seas.
-/
namespace Go.Proofs.YtoedpegjoccnlaaGreat.A
open Go.Ab
def crewAt(n:Sea)(c:List Int)(k:Nat):Bool:=wiB (c.getD k 0) 0 ((n.boats.length:Int)-1)&& !anyB (fun x=>decide (x=c.getD k 0)) (c.take k)
def crewB(n:Sea)(c:List Int):Bool:=decide (c.length=n.places.length)&&allB (crewAt n c) (List.range c.length)
theorem e_IsBoat05(n:Sea)(hn:n.boats.length<4611686018427387904)(x:Int)(lab s):den T 72 [.agg (seaV n),i64 x] lab s=some (.bool (wiB x 0 ((n.boats.length:Int)-1)),s):=by
 have w1:IntKind.i64.wrap ((n.boats.length:Int)-1)=(n.boats.length:Int)-1:=wi _ (by omega) (by omega)
 rw[den_fn t72 _ _ _ rfl]
 simp only[b72]
 simp (maxSteps:=1000000) (disch:=first|omega|assumption|decide +kernel|(simp;done)|(simp;omega)|fail) [w1]
set_option maxHeartbeats 8000000 in
theorem e_IsCrew05(n:Sea)(hok:seaOk n=true)(c:List Int)(hcl:c.length≤1000)(lab s):den T 43 [.agg (seaV n), .sl .no 1 (es cInt c)] lab s=some (.bool (crewB n c),s):=by
 obtain⟨h1,h2,h3,h4,h5,h6,h7⟩:=seaOk_iff.1 hok
 unfold crewB
 by_cases hl:c.length=n.places.length
 rotate_left
 ·have hl': ¬(c.length:Int)=n.places.length:=by omega
  rw[den_fn t43 _ _ _ rfl]
  simp only[b43]
  simp (maxSteps:=1000000) (disch:=first|omega|assumption|decide +kernel|(simp;done)|(simp;omega)|fail) [hl,hl']
 have key:=loop_all_g (T:=T) (γ:=Ab.Loc) (live:=[1,2,5]) (keep:=[32]) (b:=d43l0) (List.range c.length) (crewAt n c) (fun k=>[(1, .sl .no 1 (es cInt c)),(2, .ptr s.length 32 0),(5,i64 (k:Nat))]) (fun _=>[(32, .cell (seaV n))]::s)
  (fun g=>(.ret,[(4, .bool false)],g::s)) (.exit 0,[(1, .sl .no 1 (es cInt c)),(2, .ptr s.length 32 0),(5,i64 c.length),(15, .bool false)],[(32, .cell (seaV n))]::s) (by simp) (by simp) ?_ (by simp) [(1, .sl .no 1 (es cInt c)),(2, .ptr s.length 32 0),(5,i64 0)] ([(32, .cell (seaV n))]::s) (by simp) (by simp)
 ·obtain⟨g,key⟩:=key
  change Run T b43l0 _ _=_ at key
  cases ha:allB (crewAt n c) (List.range c.length)<;>rw[ha]at key<;>simp only[Bool.false_eq_true,if_false,if_true]at key
  ·rw[den_fn t43 _ _ _ rfl]
   simp only[b43]
   simp (maxSteps:=1000000) (disch:=first|omega|assumption|decide +kernel|(simp;done)|(simp;omega)|fail) [key,hl]
  ·rw[den_fn t43 _ _ _ rfl]
   simp only[b43]
   simp (maxSteps:=1000000) (disch:=first|omega|assumption|decide +kernel|(simp;done)|(simp;omega)|fail) [key,hl]
 ·intro k hk
  simp only[List.length_range]at hk
  simp only[List.getElem_range]
  have hk2:(k:Int)<c.length:=by omega
  have hk3:(k:Int)≤c.length:=by omega
  have hk4:k≤c.length:=by omega
  have hg:c.getD k 0=c[k]:=by simp[List.getD,hk]
  have hib:=fun x lab s=>e_IsBoat05 n (by omega) x lab s
  have hin:=fun x lab s=>e_In (c.take k) x (by simp;omega) lab s
  have htl:(c.take k).length=k:=by simp;omega
  unfold crewAt
  rw[hg]
  generalize hX:c[k]=x at*
  have hib:=hib x
  have hin:=hin x
  have et:(es cInt c).take k=es cInt (c.take k):=by simp[es,List.map_take]
  generalize anyB (fun y=>decide (y=x)) (c.take k)=b at*
  cases hw:wiB x 0 ((n.boats.length:Int)-1)<;>rw[hw]at hib
  ·refine⟨[(32, .cell (seaV n))],?_⟩
   simp (maxSteps:=1000000) (disch:=first|omega|assumption|decide +kernel|(simp;done)|(simp;omega)|fail) [run_drawnK,orSlow_none,hk,hk2,hX,hib]
  ·by_cases hk0:k=0
   ·subst hk0
    simp only[List.take_zero,es_nil]at hin et
    cases b
    ·refine⟨[(32, .cell (seaV n))],?_⟩
     simp (maxSteps:=1000000) (disch:=first|omega|assumption|decide +kernel|(simp;done)|(simp;omega)|fail) [run_drawnK,orSlow_none,hk,hk2,hX,hib,hin,et,appD_full_nil,show IntKind.i64.wrap 1=1 from by decide]
    ·refine⟨[(32, .cell (seaV n))],?_⟩
     simp (maxSteps:=1000000) (disch:=first|omega|assumption|decide +kernel|(simp;done)|(simp;omega)|fail) [run_drawnK,orSlow_none,hk,hk2,hX,hib,hin,et,appD_full_nil,show IntKind.i64.wrap 1=1 from by decide]
   ·have hne:es cInt (c.take k)≠[]:=by
     intro e
     have h9:=congrArg List.length e
     rw[es_length,htl]at h9
     exact hk0 h9
    have hEl:(es cInt (c.take k)).length=k:=by rw[es_length,htl]
    have hE1:(es cInt (c.take k)).length*8≤140737488355328:=by omega
    have hE2:(es cInt (c.take k)).length<140737488355328:=by omega
    generalize es cInt (c.take k)=E at*
    cases b
    ·refine⟨[(32, .cell (seaV n))],?_⟩
     simp (maxSteps:=1000000) (disch:=first|omega|assumption|decide +kernel|(simp;done)|(simp;omega)|fail) [run_drawnK,orSlow_none,hk,hk2,hk3,hk4,hX,hib,hin,et,hne,hE1,hE2,appD_full,wk k (by omega)]
    ·refine⟨[(32, .cell (seaV n)),(480, .tok k)],?_⟩
     simp (maxSteps:=1000000) (disch:=first|omega|assumption|decide +kernel|(simp;done)|(simp;omega)|fail) [run_drawnK,orSlow_none,hk,hk2,hk3,hk4,hX,hib,hin,et,hne,hE1,hE2,hEl,appD_full]
theorem crew_ok {n:Sea} {c:List Int}(h:crewB n c=true):CrewOk n c:=by
 simp only[crewB,Bool.and_eq_true,decide_eq_true_eq,allB_iff,List.mem_range]at h
 obtain⟨h1,h2⟩:=h
 have hat: ∀k (hk:k<c.length),(0≤c[k]∧c[k]<(n.boats.length:Int))∧c[k]∉c.take k:=fun k hk=>by
  have:=h2 k hk
  have hg:c.getD k 0=c[k]:=by simp[List.getD,hk]
  simp only[crewAt,Bool.and_eq_true,hg,Bool.not_eq_true',anyB,List.any_eq_false,decide_eq_true_eq]at this
  have h3:=within_iff.1 this.1
  exact⟨by omega,fun hm=>this.2 _ hm rfl⟩
 refine⟨fun x hx=> ?_,?_,h1⟩
 ·obtain⟨k,hk,rfl⟩:=List.getElem_of_mem hx
  exact(hat k hk).1
 ·rw[List.nodup_iff_pairwise_ne,List.pairwise_iff_getElem]
  intro i j hi hj hij e
  refine(hat j hj).2 ?_
  rw[←e]
  exact List.mem_take_iff_getElem.2 ⟨i,by omega,rfl⟩
end Go.Proofs.YtoedpegjoccnlaaGreat.A

/-
  Surer seas: what crews and costs are then.
-/
namespace Go.Proofs.YtoedpegjoccnlaaGreat.A
open Go.Ab
structure Surer(m n:Sea):Prop where
 places:m.places=n.places
 boats:m.boats=n.boats
 lo:n.weight.lo≤m.weight.lo
 hi:m.weight.hi≤n.weight.hi
theorem part_eq {m n:Sea}(h:m.places=n.places)(i:Nat):partS m i=partS n i:=by unfold partS;rw[h]
theorem boat_eq {m n:Sea}(h:m.boats=n.boats)(b:Int):boatAt m b=boatAt n b:=by unfold boatAt;rw[h]
theorem holds_le {m n:Sea}(hok:seaOk n=true)(h:Surer m n) {c:List Int}(hh:holdsS n c=true):holdsS m c=true:=by
 simp only[holdsS,allB_iff]at hh⊢
 intro i hi
 have h9:(n.weight.hi*(partS n i).hi+11)/12≤(boatAt n (c.getD i 0)).carry:=of_decide_eq_true (hh i hi)
 refine decide_eq_true ?_
 rw[boat_eq h.boats]
 unfold needS
 rw[part_eq h.places]
 have hp:=(part_bound hok i).2.2.1
 have h8:=Int.mul_le_mul_of_nonneg_right h.hi hp
 omega
def sumTo(f:Nat→Int)(k:Nat):Int:=(List.range k).foldl (fun a i=>a+f i) 0
theorem sumTo_succ(f:Nat→Int)(k:Nat):sumTo f (k+1)=sumTo f k+f k:=by unfold sumTo;rw[List.range_succ,List.foldl_append];rfl
theorem sumTo_le {f g:Nat→Int}: ∀ {k:Nat},(∀i,i<k→f i≤g i)→sumTo f k≤sumTo g k
 |0,_=>Int.le_refl _
 |k+1,h=>by
   rw[sumTo_succ,sumTo_succ]
   have:=sumTo_le (f:=f) (g:=g) (k:=k) fun i hi=>h i (by omega)
   have:=h k (by omega)
   omega
theorem safe_fold(n:Sea)(c:List Int): ∀k,((∀i,i<k→ ¬mostAt n c i<lowAt n i)→foldB (safeStep5 n c) (List.range k) 0=(sumTo (mostAt n c) k,true))∧((foldB (safeStep5 n c) (List.range k) 0).2=true→ ∀i,i<k→ ¬mostAt n c i<lowAt n i)
 |0=>⟨fun _=>rfl,fun _ i hi=>absurd hi (by omega)⟩
 |k+1=>by
   obtain⟨h1,h2⟩:=safe_fold n c k
   rw[List.range_succ,foldB_append]
   constructor
   ·intro h
    rw[h1 fun i hi=>h i (by omega)]
    simp only[if_true,foldB,safeStep5,if_neg (h k (by omega)),sumTo_succ]
   ·intro h
    by_cases hb:(foldB (safeStep5 n c) (List.range k) 0).2=true
    ·rw[if_pos hb]at h
     intro i hi
     by_cases e:i=k
     ·subst e
      intro hlt
      simp only[foldB,safeStep5,if_pos hlt]at h
      simp at h
     ·exact h2 hb i (by omega)
    ·rw[if_neg hb]at h
     exact absurd h hb
theorem part_sum {n:Sea}(hok:seaOk n=true):12≤sumTo (fun i=>(partS n i).hi) n.places.length:=by
 obtain⟨h1,h2,h3,h4,h5,h6,h7⟩:=seaOk_iff.1 hok
 have hs: ∀x∈n.places,0≤x.lo∧x.lo≤x.hi:=fun x hx=>by
  have:=spanOk_iff.1 (h4 x hx)
  omega
 have hp: ∀i,partS n i=match n.places[i]? with|some p=>⟨max p.lo (12-(highSum n.places-p.hi)),min p.hi (12-(lowSum n.places-p.lo))⟩|none=>⟨0,0⟩:=fun i=>rfl
 simp only[hp]
 generalize n.places=l at*
 clear h1 h3 h4 h5 hok hp
 match l,h2 with
 |[],_=>simp[highSum]at h7
 |[a],_=>
   have q1:=hs a (by simp)
   simp[lowSum,highSum,sumTo,List.range_succ]at h6 h7⊢
   omega
 |[a,b],_=>
   have q1:=hs a (by simp)
   have q2:=hs b (by simp)
   simp[lowSum,highSum,sumTo,List.range_succ]at h6 h7⊢
   omega
 |[a,b,c],_=>
   have q1:=hs a (by simp)
   have q2:=hs b (by simp)
   have q3:=hs c (by simp)
   simp[lowSum,highSum,sumTo,List.range_succ]at h6 h7⊢
   omega
 |[a,b,c,d],_=>
   have q1:=hs a (by simp)
   have q2:=hs b (by simp)
   have q3:=hs c (by simp)
   have q4:=hs d (by simp)
   simp[lowSum,highSum,sumTo,List.range_succ]at h6 h7⊢
   omega
 |_::_::_::_::_::_,hh=>simp at hh
theorem low_part {n:Sea}(hok:seaOk n=true)(i:Nat):lowAt n i≤(partS n i).hi:=by
 obtain⟨h1,h2,h3,h4,h5,h6,h7⟩:=seaOk_iff.1 hok
 unfold lowAt partS
 cases hp:n.places[i]? with
 |none=>simp
 |some p=>
   have:=spanOk_iff.1 (h4 p (List.mem_of_getElem? hp))
   simp only
   omega
theorem carry_nonneg {n:Sea}(hok:seaOk n=true)(b:Int):0≤(boatAt n b).carry:=by
 obtain⟨h1,h2,h3,h4,h5,h6,h7⟩:=seaOk_iff.1 hok
 unfold boatAt
 by_cases h:b.toNat<n.boats.length
 ·have:=h5 _ (List.getElem_mem h)
  simp only[boatOk,Bool.and_eq_true]at this
  have:=within_iff.1 this.1
  simp only[List.getD,List.getElem?_eq_getElem h,Option.getD_some]
  omega
 ·have e:n.boats.getD b.toNat default=default:=by simp[List.getD,List.getElem?_eq_none (show n.boats.length≤b.toNat by omega)]
  rw[e]
  exact Int.le_refl _
theorem most_part {m n:Sea}(hn:seaOk n=true)(hm:seaOk m=true)(h:Surer m n) {c:List Int} {i:Nat}(hi:i<n.places.length)(hh:holdsAt m c i=true):(partS n i).hi≤mostAt n c i:=by
 have hp:=part_bound hn i
 simp only[holdsAt,needS,decide_eq_true_eq,boat_eq h.boats,part_eq h.places]at hh
 have hwm:=spanOk_iff.1 (seaOk_iff.1 hm).1
 have hle:(partS n i).hi≤n.places[i].hi:=by unfold partS;rw[List.getElem?_eq_getElem hi];simp only;omega
 unfold mostAt
 rw[List.getElem?_eq_getElem hi]
 simp only
 by_cases hw:0<n.weight.lo
 ·rw[if_pos hw]
  have h1:=Int.mul_le_mul_of_nonneg_right (show n.weight.lo≤m.weight.hi by have:=h.lo;omega) hp.2.2.1
  have hc:=carry_nonneg hn (c.getD i 0)
  rw[Int.tdiv_eq_ediv_of_nonneg (by omega)]
  have h2:(partS n i).hi≤12*(boatAt n (c.getD i 0)).carry/n.weight.lo:=by
   apply Int.le_ediv_of_mul_le hw
   rw[Int.mul_comm]
   omega
  omega
 ·rw[if_neg hw];exact hle
theorem never_not {m n:Sea}(hn:seaOk n=true)(hm:seaOk m=true)(h:Surer m n) {c:List Int}(hc:CrewOk n c)(hh:holdsS m c=true):safe05 n c≠2:=by
 simp only[holdsS,allB_iff,List.mem_range]at hh
 have hl:=hc.len
 have h1: ∀i,i<c.length→(partS n i).hi≤mostAt n c i:=fun i hi=>most_part hn hm h (by omega) (hh i hi)
 have h2:=(safe_fold n c c.length).1 fun i hi=>by have:=h1 i hi;have:=low_part hn i;omega
 have h3:=sumTo_le h1
 have h4:=part_sum hn
 rw[←hl]at h4
 unfold safe05
 split
 ·decide
 ·unfold safeF5
  rw[h2]
  simp only[if_true]
  rw[if_neg (by omega)]
  decide
theorem most_le {m n:Sea}(hn:seaOk n=true)(h:Surer m n)(c:List Int)(i:Nat):mostAt m c i≤mostAt n c i:=by
 unfold mostAt
 rw[h.places]
 cases hp:n.places[i]? with
 |none=>exact Int.le_refl _
 |some p=>
   simp only[boat_eq h.boats]
   have hlo:=h.lo
   by_cases hw:0<n.weight.lo
   ·rw[if_pos hw,if_pos (by omega)]
    have hc:=carry_nonneg hn (c.getD i 0)
    rw[Int.tdiv_eq_ediv_of_nonneg (by omega),Int.tdiv_eq_ediv_of_nonneg (by omega)]
    have h2:12*(boatAt n (c.getD i 0)).carry/m.weight.lo≤12*(boatAt n (c.getD i 0)).carry/n.weight.lo:=by
     apply Int.le_ediv_of_mul_le hw
     have h3:=Int.ediv_mul_le (12*(boatAt n (c.getD i 0)).carry) (show m.weight.lo≠0 by omega)
     have h4:0≤12*(boatAt n (c.getD i 0)).carry/m.weight.lo:=Int.ediv_nonneg (by omega) (by omega)
     have h5:=Int.mul_le_mul_of_nonneg_left hlo h4
     omega
    omega
   ·rw[if_neg hw]
    split<;>omega
theorem safe_two {n:Sea} {c:List Int}:safe05 n c=2↔holdsS n c=false∧ ¬((safeF5 n c).2=true∧12≤(safeF5 n c).1):=by
 unfold safe05
 cases holdsS n c
 ·simp only[Bool.false_eq_true,if_false,true_and]
  by_cases h1:(safeF5 n c).2=true
  ·rw[if_pos h1]
   by_cases h2:(safeF5 n c).1<12
   ·rw[if_pos h2];simp;intro _;omega
   ·rw[if_neg h2];simp;exact⟨h1,by omega⟩
  ·rw[if_neg h1];simp;intro e;exact absurd e h1
 ·simp
theorem safe_le {m n:Sea}(hn:seaOk n=true)(hm:seaOk m=true)(h:Surer m n) {c:List Int}(hc:CrewOk n c):(safe05 n c=1→safe05 m c=1)∧(safe05 n c=2→safe05 m c=2)∧1≤safe05 n c∧safe05 n c≤3:=by
 refine⟨fun h1=> ?_,fun h2=> ?_,?_⟩
 ·have:holdsS n c=true:=by
   unfold safe05 at h1
   split at h1
   ·assumption
   ·split at h1
    ·split at h1<;>omega
    ·omega
  unfold safe05
  rw[if_pos (holds_le hn h this)]
 ·obtain⟨q1,q2⟩:=safe_two.1 h2
  refine safe_two.2 ⟨?_,fun hf=>q2 ?_⟩
  ·cases e:holdsS m c
   ·rfl
   ·exact absurd h2 (never_not hn hm h hc e)
  ·have f1:=(safe_fold m c c.length).2 hf.1
   have f2:=(safe_fold m c c.length).1 f1
   have e2: ∀i,lowAt n i=lowAt m i:=fun i=>by unfold lowAt;rw[h.places]
   have f3:=(safe_fold n c c.length).1 fun i hi=>by have:=f1 i hi;have:=most_le hn h c i;rw[e2];omega
   have f4:=sumTo_le (k:=c.length) fun i _=>most_le hn h c i
   have f5:=hf.2
   unfold safeF5 at f5⊢
   rw[f2]at f5
   rw[f3]
   exact⟨rfl,by simp only at f5⊢;omega⟩
 ·unfold safe05
  split
  ·omega
  ·split
   ·split<;>omega
   ·omega
theorem cost_eq {m n:Sea}(h:m.boats=n.boats)(c:List Int):costS m c=costS n c:=by
 unfold costS
 simp only[boat_eq h]
theorem cheap_le {m n:Sea}(hn:seaOk n=true)(h:Surer m n):0≤(cheapS n).2→0≤(cheapS m).2∧(cheapS m).2≤(cheapS n).2:=by
 have key: ∀(l:List (List Int)) (a b:Option (List Int)×Int),(0≤a.2→0≤b.2∧b.2≤a.2)→0≤(l.foldl (cheapY n) a).2→0≤(l.foldl (cheapY m) b).2∧(l.foldl (cheapY m) b).2≤(l.foldl (cheapY n) a).2:=by
  intro l
  induction l with
  |nil=>intro a b h;exact h
  |cons c l ih=>
    intro a b hab
    rw[List.foldl_cons,List.foldl_cons]
    refine ih _ _ ?_
    have hc:=cost_ge hn c
    have hh:=fun e=>holds_le (c:=c) hn h e
    unfold cheapY
    rw[cost_eq h.boats]
    generalize costS n c=k at*
    cases e1:holdsS n c
    ·simp only[Bool.false_eq_true,if_false]
     intro ha
     have:=hab ha
     split
     ·split<;>(try simp only)<;>omega
     ·exact this
    ·rw[hh e1]
     simp only[if_true]
     intro ha
     by_cases a1:a.2<0∨k<a.2
     ·rw[if_pos a1]at ha⊢
      split<;>(try simp only at ha⊢)<;>omega
     ·rw[if_neg a1]at ha⊢
      have:=hab ha
      split<;>(try simp only)<;>omega
 have e:crewsFrom m.boats.length m.places.length []=crewsFrom n.boats.length n.places.length []:=by rw[h.places,h.boats]
 unfold cheapS
 rw[e]
 exact key _ _ _ (by simp)
end Go.Proofs.YtoedpegjoccnlaaGreat.A

/-
  surer, withCatch.
-/
namespace Go.Proofs.YtoedpegjoccnlaaGreat.A
open Go.Ab
theorem e_Cheap5(n:Sea)(lab s):den T 40 [.agg (seaV n)] lab s=some (.tup [i64 (cheapR n).1,i64 (cheapR n).2],s):=e_Cheap n.weight.lo n.weight.hi n.places n.boats lab s
set_option maxHeartbeats 8000000 in
theorem e_surer(m n:Sea)(hm:seaOk m=true)(hn:seaOk n=true)(h:Surer m n)(c:List Int)(hcl:c.length≤1000)(lab s):
 den T 16 [.agg (seaV m), .agg (seaV n), .sl .no 1 (es cInt c)] lab s=some (.bool true,s):=by
 have hic:=fun lab s=>e_IsCrew05 m hm c hcl lab s
 have hc1:=fun lab s=>e_Cheap5 m lab s
 have hc2:=fun lab s=>e_Cheap5 n lab s
 have hle:=cheap_le hn h
 have e1:cheapR m=if (cheapS m).2<0 then(0,3)else((cheapS m).2,0):=by unfold cheapR;rw[if_pos hm]
 have e2:cheapR n=if (cheapS n).2<0 then(0,3)else((cheapS n).2,0):=by unfold cheapR;rw[if_pos hn]
 rw[e1]at hc1
 rw[e2]at hc2
 generalize (cheapS m).2=p at*
 generalize (cheapS n).2=q at*
 have hfin: ∀(a b:Int),True:=fun _ _=>trivial
 cases hb:crewB m c<;>rw[hb]at hic
 ·by_cases hq:q<0
  ·rw[if_pos hq]at hc2
   by_cases hp:p<0
   ·rw[if_pos hp]at hc1
    rw[den_fn t16 _ _ _ rfl]
    simp only[b16]
    simp (maxSteps:=1000000) (disch:=first|omega|assumption|decide +kernel|(simp;done)|(simp;omega)|fail) [run_drawnK,orSlow_none,hic,hc1,hc2]
   ·rw[if_neg hp]at hc1
    rw[den_fn t16 _ _ _ rfl]
    simp only[b16]
    simp (maxSteps:=1000000) (disch:=first|omega|assumption|decide +kernel|(simp;done)|(simp;omega)|fail) [run_drawnK,orSlow_none,hic,hc1,hc2]
  ·rw[if_neg hq]at hc2
   obtain⟨h1,h2⟩:=hle (by omega)
   rw[if_neg (by omega)]at hc1
   rw[den_fn t16 _ _ _ rfl]
   simp only[b16]
   simp (maxSteps:=1000000) (disch:=first|omega|assumption|decide +kernel|(simp;done)|(simp;omega)|fail) [run_drawnK,orSlow_none,hic,hc1,hc2,h1,h2]
 ·have hk:=crew_ok hb
  have hkn:CrewOk n c:=⟨by rw[←h.boats];exact hk.r,hk.nd,by rw[←h.places];exact hk.len⟩
  have hs1:=fun lab s=>e_Safe05 n hn c hkn lab s
  have hs2:=fun lab s=>e_Safe05 m hm c hk lab s
  obtain⟨s1,s2,s3,s4⟩:=safe_le hn hm h hkn
  have hne:c≠[]:=by
   intro e
   have h9:=hkn.len
   have h8:=(seaOk_iff.1 hn).2.2.2.2.2.2
   rw[e]at h9
   have h7:n.places=[]:=List.eq_nil_of_length_eq_zero h9.symm
   rw[h7]at h8
   simp[highSum]at h8
  have hE:es cInt c≠[]:=by
   intro e
   have h9:=congrArg List.length e
   rw[es_length]at h9
   exact hne (List.eq_nil_of_length_eq_zero h9)
  have hE1:(es cInt c).length*8≤140737488355328:=by rw[es_length];omega
  have hE2:(es cInt c).length<140737488355328:=by rw[es_length];omega
  have hwi:wiB (safe05 n c) 1 3=true:=within_iff.2 ⟨s3,s4⟩
  have hcs:safe05 n c=3∨(¬safe05 n c=3∧safe05 m c=safe05 n c):=by
   by_cases e3:safe05 n c=3
   ·exact .inl e3
   ·refine .inr ⟨e3,?_⟩
    obtain e|e:safe05 n c=1∨safe05 n c=2:=by omega
    ·rw[e,s1 e]
    ·rw[e,s2 e]
  clear s1 s2 s3 s4 hne
  generalize safe05 n c=k at*
  generalize safe05 m c=l at*
  generalize es cInt c=E at*
  rcases hcs with rfl|⟨hk3,rfl⟩
  ·by_cases hq:q<0
   ·rw[if_pos hq]at hc2
    by_cases hp:p<0
    ·rw[if_pos hp]at hc1
     rw[den_fn t16 _ _ _ rfl]
     simp only[b16]
     simp (maxSteps:=1000000) (disch:=first|omega|assumption|decide +kernel|(simp;done)|(simp;omega)|fail) [run_drawnK,orSlow_none,hic,hc1,hc2,hs1,hs2,hE,hE1,hE2,hwi,appD_full]
    ·rw[if_neg hp]at hc1
     rw[den_fn t16 _ _ _ rfl]
     simp only[b16]
     simp (maxSteps:=1000000) (disch:=first|omega|assumption|decide +kernel|(simp;done)|(simp;omega)|fail) [run_drawnK,orSlow_none,hic,hc1,hc2,hs1,hs2,hE,hE1,hE2,hwi,appD_full]
   ·rw[if_neg hq]at hc2
    obtain⟨h1,h2⟩:=hle (by omega)
    rw[if_neg (by omega)]at hc1
    rw[den_fn t16 _ _ _ rfl]
    simp only[b16]
    simp (maxSteps:=1000000) (disch:=first|omega|assumption|decide +kernel|(simp;done)|(simp;omega)|fail) [run_drawnK,orSlow_none,hic,hc1,hc2,h1,h2,hs1,hs2,hE,hE1,hE2,hwi,appD_full]
  ·by_cases hq:q<0
   ·rw[if_pos hq]at hc2
    by_cases hp:p<0
    ·rw[if_pos hp]at hc1
     rw[den_fn t16 _ _ _ rfl]
     simp only[b16]
     simp (maxSteps:=1000000) (disch:=first|omega|assumption|decide +kernel|(simp;done)|(simp;omega)|fail) [run_drawnK,orSlow_none,hic,hc1,hc2,hs1,hs2,hE,hE1,hE2,hwi,hk3,appD_full]
    ·rw[if_neg hp]at hc1
     rw[den_fn t16 _ _ _ rfl]
     simp only[b16]
     simp (maxSteps:=1000000) (disch:=first|omega|assumption|decide +kernel|(simp;done)|(simp;omega)|fail) [run_drawnK,orSlow_none,hic,hc1,hc2,hs1,hs2,hE,hE1,hE2,hwi,hk3,appD_full]
   ·rw[if_neg hq]at hc2
    obtain⟨h1,h2⟩:=hle (by omega)
    rw[if_neg (by omega)]at hc1
    rw[den_fn t16 _ _ _ rfl]
    simp only[b16]
    simp (maxSteps:=1000000) (disch:=first|omega|assumption|decide +kernel|(simp;done)|(simp;omega)|fail) [run_drawnK,orSlow_none,hic,hc1,hc2,h1,h2,hs1,hs2,hE,hE1,hE2,hwi,hk3,appD_full]
def catchSea(n:Sea)(a b p:Int):Sea:= {n with weight:=⟨a*p,b*p⟩}
theorem mul40 {a p:Int}(h:0≤a∧a≤40)(hp:0≤p∧p≤50):0≤a*p∧a*p≤2000:=by
 have h1:=Int.mul_nonneg h.1 hp.1
 have h2:=Int.mul_le_mul_of_nonneg_right h.2 hp.1
 omega
theorem catch_ok {n:Sea}(hn:seaOk n=true) {a b p:Int}(ha:0≤a)(hab:a≤b)(hb:b≤40)(hp:0≤p∧p≤50):seaOk (catchSea n a b p)=true:=by
 obtain⟨h1,h2⟩:=seaOk_iff.1 hn
 refine seaOk_iff.2 ⟨spanOk_iff.2 ?_,h2⟩
 have q1:=mul40 (a:=a) ⟨ha,by omega⟩ hp
 have q2:=mul40 (a:=b) ⟨by omega,hb⟩ hp
 have q3:=Int.mul_le_mul_of_nonneg_right hab hp.1
 exact⟨q1.1,q3,q2.2⟩
theorem catch_surer(n:Sea) {a b a' b' p:Int}(hp:0≤p)(h1:a≤a')(h2:b'≤b):Surer (catchSea n a' b' p) (catchSea n a b p):=
 ⟨rfl,rfl,Int.mul_le_mul_of_nonneg_right h1 hp,Int.mul_le_mul_of_nonneg_right h2 hp⟩
set_option maxHeartbeats 4000000 in
theorem e_withCatch(n:Sea)(hn:seaOk n=true) {a b p:Int}(ha:0≤a∧a≤40)(hb:0≤b∧b≤40)(hp:0≤p∧p≤50)(lab s):
 den T 15 [.agg (seaV n), .agg [i64 a,i64 b],i64 p] lab s=some (.agg (seaV (catchSea n a b p)),s):=by
 obtain⟨h1,h2,h3,h4,h5,h6,h7⟩:=seaOk_iff.1 hn
 have hcp:=fun lab loc s k0 k1=>e_Copy05 n.weight.lo n.weight.hi n.places n.boats (by omega) (by omega) lab loc s k0 k1
 have q1:=mul40 ha hp
 have q2:=mul40 hb hp
 have w1:IntKind.i64.wrap (a*p)=a*p:=wi _ (by omega) (by omega)
 have w2:IntKind.i64.wrap (b*p)=b*p:=wi _ (by omega) (by omega)
 unfold catchSea
 rw[den_fn t15 _ _ _ rfl]
 simp only[b15]
 simp (maxSteps:=1000000) (disch:=first|omega|assumption|decide +kernel|(simp;done)|(simp;omega)|fail) [run_drawnK,orSlow_none,hcp,w1,w2]
end Go.Proofs.YtoedpegjoccnlaaGreat.A

/-
  TopTrusted: the fish of the last chamber; the chapter's examples.
-/
namespace Go.Proofs.YtoedpegjoccnlaaGreat
open Go.Ab
def lastW(b:WBook):CSp:=spanW b (b.T-1) (b.trap.C-1) (b.T-1) (b.trap.C-1+1)
theorem lastW_range {b:WBook}(hB:bookB b=true)(hne:storiesL b≠[]):0≤(lastW b).lo∧(lastW b).lo≤(lastW b).hi∧(lastW b).hi≤40:=by
 have hok:=bookB_ok hB
 have htt:=hok.trap.tt
 have htc:=hok.trap.cc
 have e1:b.T=b.trap.times.toNat:=rfl
 have e2:b.trap.C=b.trap.chambers.toNat:=rfl
 exact fish_range hok hne (by omega) (by omega)
set_option maxHeartbeats 4000000 in
theorem e_watched(b:WBook)(hB:bookB b=true)(hc:CopyB b)(hne:storiesL b≠[])(lab s):den T 14 [.agg (vB b)] lab s=some (.tup [.agg [i64 (lastW b).lo,i64 (lastW b).hi], .bool true],s):=by
 have hok:=bookB_ok hB
 have htt:=hok.trap.tt
 have htc:=hok.trap.cc
 have e1:b.T=b.trap.times.toNat:=rfl
 have e2:b.trap.C=b.trap.chambers.toNat:=rfl
 have hf:=fun lab s=>e_FishW b hc (trapB_mid (bookB_trap hB)) ((b.T-1:Nat):Int) ((b.trap.C-1:Nat):Int) lab s
 rw[fish_in hB hne (i:=b.T-1) (c:=b.trap.C-1) (by omega) (by omega)]at hf
 change∀lab s,den T _ _ lab s=some (.tup [.agg [i64 (lastW b).lo,i64 (lastW b).hi],i64 0],s)at hf
 obtain⟨r1,r2,r3⟩:=lastW_range hB hne
 rw[show((b.T-1:Nat):Int)=b.trap.times-1 by omega,show((b.trap.C-1:Nat):Int)=b.trap.chambers-1 by omega]at hf
 have w1:IntKind.i64.wrap (b.trap.times-1)=b.trap.times-1:=wi _ (by omega) (by omega)
 have w2:IntKind.i64.wrap (b.trap.chambers-1)=b.trap.chambers-1:=wi _ (by omega) (by omega)
 clear e1 e2 htt htc hok
 generalize lastW b=W at*
 rw[den_fn t14 _ _ _ rfl]
 simp only[b14]
 simp (maxSteps:=1000000) (disch:=first|omega|assumption|decide +kernel|(simp;done)|(simp;omega)|fail) [run_drawnK,orSlow_none,w1,w2,hf,r1,r2,r3]
theorem ex_cheap:A.cheapR A.exSea=(20,0):=by decide +kernel
set_option maxHeartbeats 4000000 in
theorem e_trusted(lab s):den T 13 [] lab s=some (.bool true,s):=by
 have h1:=fun lab s=>A.e_Example05 lab s
 have h2:=fun lab s=>e_Example11 lab s
 have h3:=fun lab s=>A.e_Cheap5 A.exSea lab s
 have o1:open11 exB true=0:=by unfold open11 ask11;rw[exB_ok];simp[ex_someB]
 have h5:=fun lab s=>e_FishW exB exB_copy exB_mid 1 0 lab s
 have e5:fishV11 exB 1 0=(⟨2,9⟩,0):=by
  have:placeB exB.trap 1 0=true:=by decide
  unfold fishV11;rw[this,o1,if_pos rfl]
  exact congrArg (fun x=>(x,(0:Int))) ex_spanB
 rw[e5]at h5
 rw[ex_cheap]at h3
 change∀lab s,den T _ [.agg [i64 100,i64 120, .sl .no 2 (es cSp A.exSea.places), .sl .no 2 (es A.cBoat A.exSea.boats)]] lab s=_ at h3
 generalize exB=B at*
 generalize exC=C at*
 generalize A.exSea.places=P at*
 generalize A.exSea.boats=Q at*
 rw[den_fn t13 _ _ _ rfl]
 simp only[b13]
 simp (maxSteps:=6000000) (disch:=first|omega|assumption|decide +kernel|(simp;done)|(simp;omega)|fail) [run_drawnK,orSlow_none,h1,h2,h3,h5,eqCells]
end Go.Proofs.YtoedpegjoccnlaaGreat

/-
  TopTrusted: the book in which he was sober at one time more.
-/
namespace Go.Proofs.YtoedpegjoccnlaaGreat
open Go.Ab
abbrev trF(b:WBook)(n:A.Sea)(g:List Int)(L:List (List Int))(p:Int)(c:List Int)(x:Int)(lo hi:Int)(wide just:A.Sea)(d:Nat)(a:List Int):Ab.Loc:=
 [(48, .cell (vB b)),(64, .cell (A.seaV n)),(80, .cell [.sl .no 1 (es cInt g), .sl .no 1 (es cInts L),i64 p, .sl .no 1 (es cInt c),i64 x]),(112, .cell [i64 lo,i64 hi]),(160, .cell (A.seaV wide)),(176, .cell (A.seaV just)),
  (192, .cell [i64 b.trap.chambers,i64 b.trap.times, .sl .no 1 (es cInts b.trap.opn), .sl .no 4 (es cWord b.trap.words),i64 b.drunk,i64 b.run, .sl (.own d 200) 1 (es cInt a)]),(200, .tok a.length)]
set_option maxHeartbeats 8000000 in
theorem tr_l0(b:WBook)(hB:bookB b=true)(hc:CopyB b)(n:A.Sea)(g:List Int)(L:List (List Int))(p:Int)(c:List Int)(x lo hi:Int)(wide just:A.Sea)(s:Stk):
 Run T b3l0 [(3, .ptr s.length 48 0),(4, .ptr s.length 64 0),(5, .ptr s.length 80 0),(10, .ptr s.length 160 0),(11, .ptr s.length 176 0),(12, .ptr s.length 192 0),(13,i64 0)] (trF b n g L p c x lo hi wide just s.length []::s)=
  some (.exit 0,[(3, .ptr s.length 48 0),(4, .ptr s.length 64 0),(5, .ptr s.length 80 0),(10, .ptr s.length 160 0),(11, .ptr s.length 176 0),(12, .ptr s.length 192 0),(13,i64 b.trap.times),(153, .bool false)],trF b n g L p c x lo hi wide just s.length (soberL b x)::s):=by
 have htt:=(bookB_ok hB).trap.tt
 have eT:b.T=b.trap.times.toNat:=rfl
 have hz:((b.T:Nat):Int)=b.trap.times:=by omega
 have key:=loop_fold (T:=T) (live:=[3,4,5,10,11,12,13]) (keep:=[48,64,80,112,160,176,192,200,224,256,288,336,416,480,672,1024,1152,1216,1264,1312,1888,2000,2080,2160,2288,2320,2352,2784,2928,3008,3104,3152]) (b:=d3l0) (List.range b.T) (fun k (a:List Int)=>a.length≤k) (pickSo b x)
  (fun k _=>[(3, .ptr s.length 48 0),(4, .ptr s.length 64 0),(5, .ptr s.length 80 0),(10, .ptr s.length 160 0),(11, .ptr s.length 176 0),(12, .ptr s.length 192 0),(13,i64 (k:Nat))]) (fun _ a=>trF b n g L p c x lo hi wide just s.length a::s)
  (fun a=>(.exit 0,[(3, .ptr s.length 48 0),(4, .ptr s.length 64 0),(5, .ptr s.length 80 0),(10, .ptr s.length 160 0),(11, .ptr s.length 176 0),(12, .ptr s.length 192 0),(13,i64 b.trap.times),(153, .bool false)],trF b n g L p c x lo hi wide just s.length a::s))
  (by simp) ?_ ?_ ?_ [] (by simp) [(3, .ptr s.length 48 0),(4, .ptr s.length 64 0),(5, .ptr s.length 80 0),(10, .ptr s.length 160 0),(11, .ptr s.length 176 0),(12, .ptr s.length 192 0),(13,i64 0)] (trF b n g L p c x lo hi wide just s.length []::s) (by simp) (by simp)
 ·rw[pickSo_fold,List.nil_append]at key
  exact key
 ·intro k a hk hi2
  simp only[List.length_range]at hk
  simp only[List.getElem_range]
  have hk2:(k:Int)<b.trap.times:=by omega
  have hk9:k<1000:=by omega
  have i1:=fun lab s=>e_In b.sober k (by have:=hc.sober;omega) lab s
  rw[in_contains]at i1
  have e0:es cInt a ++[[i64 (k:Nat)]]=es cInt (a ++[(k:Int)]):=by simp[es]
  unfold pickSo
  clear eT hz htt
  generalize b.sober.contains (k:Int)=q at*
  by_cases h:(k:Int)=x
  ·subst h
   simp (maxSteps:=6000000) (disch:=first|omega|assumption|decide +kernel|(simp;done)|(simp;omega)|fail) [run_drawnK,orSlow_none,hk2,e0,appK_own1,wk k (by omega)]
  ·cases q
   ·simp (maxSteps:=6000000) (disch:=first|omega|assumption|decide +kernel|(simp;done)|(simp;omega)|fail) [run_drawnK,orSlow_none,hk2,h,i1,-e_In,-A.e_In,wk k (by omega)]
   ·simp (maxSteps:=6000000) (disch:=first|omega|assumption|decide +kernel|(simp;done)|(simp;omega)|fail) [run_drawnK,orSlow_none,hk2,h,i1,-e_In,-A.e_In,e0,appK_own1,wk k (by omega)]
 ·intro k a hk hi2
  unfold pickSo
  split<;>(try simp only[List.length_append,List.length_cons,List.length_nil])<;>omega
 ·intro a hi2
  simp only[List.length_range,hz]
  simp
end Go.Proofs.YtoedpegjoccnlaaGreat

/-
  TopTrusted: its equation.
-/
namespace Go.Proofs.YtoedpegjoccnlaaGreat
open Go.Ab
theorem tale_can {b:WBook}(hB:bookB b=true) {g:List Int} {L:List (List Int)}(h1:canR b g=true)(h2:truthT (trapOf b g) L=true):TaleF b g L:=by
 have hok:=bookB_ok hB
 have htt:=hok.trap.tt
 have eT:b.T=b.trap.times.toNat:=rfl
 simp only[canR,Bool.and_eq_true]at h1
 obtain⟨r1,r2⟩:=rising_iff.1 h1.1
 exact tale_of hok (allL_mem.2 ⟨r1,fun y hy=>by have:=r2 y hy;omega⟩) h1.2 h2
theorem open_short {b:WBook}(hB:bookB b=true)(hc:CopyB b)(g:List Int): ∀x,x∈(trapOf b g).opn→x.length<4611686018427387904:=trapOf_open hB g
set_option maxHeartbeats 32000000 in
theorem e_TopTrusted(b:WBook)(hs:ShortB b)(n:A.Sea)(hn1:n.places.length<4611686018427387904)(hn2:n.boats.length<4611686018427387904)(g:List Int)(L:List (List Int))(hg:g.length<4611686018427387904)(hL:L.length<4611686018427387904)(p:Int)(c:List Int)(hcl:c.length<4611686018427387904)(x:Int)(lab s):
 den T 3 [.agg (vB b), .agg (A.seaV n), .agg [.sl .no 1 (es cInt g), .sl .no 1 (es cInts L),i64 p, .sl .no 1 (es cInt c),i64 x]] lab s=some (.bool true,s):=by
 have htr:=fun lab s=>e_trusted lab s
 have h1:=fun lab s=>e_Far b hs lab s
 have h3:=fun lab s=>A.e_Far05 n.weight.lo n.weight.hi n.places n.boats lab s
 have h4:=fun lab s=>A.e_Check05 n.weight.lo n.weight.hi n.places n.boats lab s
 change∀lab s,den T _ [.agg (A.seaV n)] lab s=some (.bool (A.farSea n),s)at h3
 change∀lab s,den T _ [.agg (A.seaV n)] lab s=some (i64 (if A.seaOk n=true then 0 else 50),s)at h4
 cases c1:farB b<;>rw[c1]at h1
 rotate_left
 ·rw[den_fn t3 _ _ _ rfl]
  simp only[b3]
  simp (maxSteps:=6000000) (disch:=first|omega|assumption|decide +kernel|(simp;done)|(simp;omega)|fail) [run_drawnK,orSlow_none,h1,htr]
 have hc:=farB_copy c1
 have h2:=fun lab s=>e_Check11 b hc lab s
 cases hB:bookB b<;>simp only[hB,Bool.false_eq_true,if_false,if_true]at h2
 ·rw[den_fn t3 _ _ _ rfl]
  simp only[b3]
  simp (maxSteps:=6000000) (disch:=first|omega|assumption|decide +kernel|(simp;done)|(simp;omega)|fail) [run_drawnK,orSlow_none,h1,h2,htr]
 cases c3:A.farSea n<;>rw[c3]at h3
 rotate_left
 ·rw[den_fn t3 _ _ _ rfl]
  simp only[b3]
  simp (maxSteps:=6000000) (disch:=first|omega|assumption|decide +kernel|(simp;done)|(simp;omega)|fail) [run_drawnK,orSlow_none,h1,h2,h3,htr]
 cases hok:A.seaOk n<;>simp only[hok,Bool.false_eq_true,if_false,if_true]at h4
 ·rw[den_fn t3 _ _ _ rfl]
  simp only[b3]
  simp (maxSteps:=6000000) (disch:=first|omega|assumption|decide +kernel|(simp;done)|(simp;omega)|fail) [run_drawnK,orSlow_none,h1,h2,h3,h4,htr]
 by_cases c5:40<c.length
 ·have c5':(40:Int)<c.length:=by omega
  rw[den_fn t3 _ _ _ rfl]
  simp only[b3]
  simp (maxSteps:=6000000) (disch:=first|omega|assumption|decide +kernel|(simp;done)|(simp;omega)|fail) [run_drawnK,orSlow_none,h1,h2,h3,h4,c5,c5',htr]
 have c5': ¬(40:Int)<c.length:=by omega
 have hwi:=fun lab s=>A.e_Within p 0 50 lab s
 cases c6:wiB p 0 50<;>rw[c6]at hwi
 ·rw[den_fn t3 _ _ _ rfl]
  simp only[b3]
  simp (maxSteps:=6000000) (disch:=first|omega|assumption|decide +kernel|(simp;done)|(simp;omega)|fail) [run_drawnK,orSlow_none,h1,h2,h3,h4,c5,c5',hwi,-e_Within,-A.e_Within,htr]
 have hp:=A.within_iff.1 c6
 by_cases c7:40<g.length
 ·have c7':(40:Int)<g.length:=by omega
  rw[den_fn t3 _ _ _ rfl]
  simp only[b3]
  simp (maxSteps:=6000000) (disch:=first|omega|assumption|decide +kernel|(simp;done)|(simp;omega)|fail) [run_drawnK,orSlow_none,h1,h2,h3,h4,c5,c5',hwi,-e_Within,-A.e_Within,c7,c7',htr]
 have c7': ¬(40:Int)<g.length:=by omega
 by_cases c8:40<L.length
 ·have c8':(40:Int)<L.length:=by omega
  rw[den_fn t3 _ _ _ rfl]
  simp only[b3]
  simp (maxSteps:=6000000) (disch:=first|omega|assumption|decide +kernel|(simp;done)|(simp;omega)|fail) [run_drawnK,orSlow_none,h1,h2,h3,h4,c5,c5',hwi,-e_Within,-A.e_Within,c7,c7',c8,c8',htr]
 have c8': ¬(40:Int)<L.length:=by omega
 have hbok:=bookB_ok hB
 have htt:=hbok.trap.tt
 have htc:=hbok.trap.cc
 have h5:=fun lab s=>e_CanBe b hc (by omega) (trapB_mid (bookB_trap hB)) g (by omega) lab s
 cases c9:canR b g<;>rw[c9]at h5
 ·rw[den_fn t3 _ _ _ rfl]
  simp only[b3]
  simp (maxSteps:=6000000) (disch:=first|omega|assumption|decide +kernel|(simp;done)|(simp;omega)|fail) [run_drawnK,orSlow_none,h1,h2,h3,h4,c5,c5',hwi,-e_Within,-A.e_Within,c7,c7',c8,c8',h5,htr]
 have h6:=fun lab s=>e_TrapOf b hc g (by omega) lab s
 have h7:=fun lab s=>e_IsTruth (trapOf b g) (trapOf_ok hbok g) (open_short hB hc g) L lab s
 cases c10:truthT (trapOf b g) L<;>rw[c10]at h7
 ·generalize trapOf b g=t2 at*
  rw[den_fn t3 _ _ _ rfl]
  simp only[b3]
  simp (maxSteps:=6000000) (disch:=first|omega|assumption|decide +kernel|(simp;done)|(simp;omega)|fail) [run_drawnK,orSlow_none,h1,h2,h3,h4,c5,c5',hwi,-e_Within,-A.e_Within,c7,c7',c8,c8',h5,h6,h7,htr]
 have t:=tale_can hB c9 c10
 have hne:storiesL b≠[]:=List.ne_nil_of_mem t.story
 have e1:b.T=b.trap.times.toNat:=rfl
 have e2:b.trap.C=b.trap.chambers.toNat:=rfl
 have k1:b.T-1<L.length:=by rw[t.len];omega
 have hrow:=t.row (b.T-1) (by omega)
 have hgr:L.getD (b.T-1) []=L[b.T-1]:=by simp[List.getD,k1]
 rw[hgr]at hrow
 have k2:b.trap.C-1<L[b.T-1].length:=by omega
 have hfi:=t.fish hbok (i:=b.T-1) (c:=b.trap.C-1) (by omega) (by omega)
 have hgv:L[b.T-1].getD (b.trap.C-1) 0=L[b.T-1][b.trap.C-1]:=by simp[List.getD,k2]
 rw[hgr,hgv]at hfi
 change (lastW b).lo≤_∧_≤(lastW b).hi at hfi
 obtain⟨r1,r2,r3⟩:=lastW_range hB hne
 have hwd:=fun lab s=>e_watched b hB hc hne lab s
 have w1:IntKind.i64.wrap (b.trap.times-1)=((b.T-1:Nat):Int):=by rw[wi _ (by omega) (by omega)];omega
 have w2:IntKind.i64.wrap (b.trap.chambers-1)=((b.trap.C-1:Nat):Int):=by rw[wi _ (by omega) (by omega)];omega
 have hit:=fun lab s=>e_IsTime11 b (trapB_mid (bookB_trap hB)) x lab s
 have hin:=fun lab s=>e_In g x (by omega) lab s
 rw[in_contains]at hin
 have hso:wiB x 0 (b.trap.times-1)=true→g.contains x=false→ ∃lo' hi',(∀lab s,den T 14 [.agg (vB (soberedB b x))] lab s=some (.tup [.agg [i64 lo',i64 hi'], .bool true],s))∧(0≤lo'∧lo'≤hi'∧hi'≤40)∧(lastW b).lo≤lo'∧hi'≤(lastW b).hi∧lo'≤L[b.T-1][b.trap.C-1]∧L[b.T-1][b.trap.C-1]≤hi':=fun q1 q2=>by
  have hx:=wiB_iff.1 q1
  have hng:x∉g:=fun hm=>by
   have:=List.contains_iff_mem.2 hm
   rw[q2]at this;cases this
  obtain⟨o1,o2⟩:=sobered_ok hB hc x
  have hS:=sobered_is hbok (n:=x) (by omega)
  have t':=hS.tale t hng
  have hne':storiesL (soberedB b x)≠[]:=List.ne_nil_of_mem t'.story
  have hsp:=hS.wide.span (bookB_ok o1) hbok hne' (i:=b.T-1) (c:=b.trap.C-1) (j:=b.T-1) (d:=b.trap.C-1+1) (by show b.T-1<b.T;omega) (by show b.trap.C-1≤b.trap.C;omega) (by show b.T-1<b.T;omega) (by show b.trap.C-1+1≤b.trap.C;omega)
  have hf':=t'.fish (bookB_ok o1) (i:=b.T-1) (c:=b.trap.C-1) (by show b.T-1<b.T;omega) (by show b.trap.C-1<b.trap.C;omega)
  rw[hgr,hgv]at hf'
  obtain⟨s1,_,s3⟩:=inS_iff.1 hsp
  exact⟨(lastW (soberedB b x)).lo,(lastW (soberedB b x)).hi,fun lab s=>e_watched _ o1 o2 hne' lab s,lastW_range o1 hne',s1,s3,hf'.1,hf'.2⟩
 clear t hbok hne c9 c10 hgr hgv hrow
 generalize lastW b=W at*
 obtain⟨lo,hi⟩:=W
 simp only at hfi r1 r2 r3 hwd hso
 have k1':((b.T-1:Nat):Int)<L.length:=by omega
 have k2':((b.trap.C-1:Nat):Int)<L[b.T-1].length:=by omega
 obtain⟨iT,hiT⟩: ∃i,b.T-1=i:=⟨_,rfl⟩
 obtain⟨iC,hiC⟩: ∃i,b.trap.C-1=i:=⟨_,rfl⟩
 simp only[hiT,hiC]at*
 obtain⟨R,hR⟩: ∃R,L[iT]=R:=⟨_,rfl⟩
 simp only[hR]at hfi hso k2 k2'
 obtain⟨v,hv⟩: ∃v,R[iC]=v:=⟨_,rfl⟩
 simp only[hv]at hfi hso
 have hsw:=fun lab s=>A.e_withCatch n hok (a:=lo) (b:=hi) (p:=p) (by omega) (by omega) hp lab s
 have hsj:=fun lab s=>A.e_withCatch n hok (a:=v) (b:=v) (p:=p) (by omega) (by omega) hp lab s
 have okw:=A.catch_ok hok r1 r2 r3 hp
 have okj:=A.catch_ok hok (a:=v) (b:=v) (p:=p) (by omega) (Int.le_refl _) (by omega) hp
 have hsu:=fun lab s=>A.e_surer _ _ okj okw (A.catch_surer n hp.1 hfi.1 hfi.2) c (by omega) lab s
 generalize trapOf b g=t2 at*
 have n1: ¬v<lo:=by omega
 have n2: ¬hi<v:=by omega
 cases q1:wiB x 0 (b.trap.times-1)<;>rw[q1]at hit
 ·generalize A.catchSea n lo hi p=wide at*
  generalize A.catchSea n v v p=just at*
  rw[den_fn t3 _ _ _ rfl]
  simp only[b3]
  simp (maxSteps:=6000000) (disch:=first|omega|assumption|decide +kernel|(simp;done)|(simp;omega)|fail) [run_drawnK,orSlow_none,h1,h2,h3,h4,c5,c5',hwi,-e_Within,-A.e_Within,-e_In,-A.e_In,c7,c7',c8,c8',h5,h6,h7,htr,hwd,w1,w2,k1,k1',hR,k2,k2',hv,n1,n2,hsw,hsj,hsu,hit]
 cases q2:g.contains x<;>rw[q2]at hin
 rotate_left
 ·generalize A.catchSea n lo hi p=wide at*
  generalize A.catchSea n v v p=just at*
  rw[den_fn t3 _ _ _ rfl]
  simp only[b3]
  simp (maxSteps:=6000000) (disch:=first|omega|assumption|decide +kernel|(simp;done)|(simp;omega)|fail) [run_drawnK,orSlow_none,h1,h2,h3,h4,c5,c5',hwi,-e_Within,-A.e_Within,-e_In,-A.e_In,c7,c7',c8,c8',h5,h6,h7,htr,hwd,w1,w2,k1,k1',hR,k2,k2',hv,n1,n2,hsw,hsj,hsu,hit,hin]
 obtain⟨lo',hi',hwo,⟨o1,o2,o3⟩,s1,s2,s3,s4⟩:=hso q1 q2
 have hss:=fun lab s=>A.e_withCatch n hok (a:=lo') (b:=hi') (p:=p) (by omega) (by omega) hp lab s
 have oks:=A.catch_ok hok o1 o2 o3 hp
 have hu1:=fun lab s=>A.e_surer _ _ oks okw (A.catch_surer n hp.1 s1 s2) c (by omega) lab s
 have hu2:=fun lab s=>A.e_surer _ _ okj oks (A.catch_surer n hp.1 s3 s4) c (by omega) lab s
 have hcp:=fun lab s=>e_Copy11 b hc lab s
 have hl0:=tr_l0 b hB hc n g L p c x lo hi (A.catchSea n lo hi p) (A.catchSea n v v p) s
 have evs:vB (soberedB b x)=[i64 b.trap.chambers,i64 b.trap.times, .sl .no 1 (es cInts b.trap.opn), .sl .no 4 (es cWord b.trap.words),i64 b.drunk,i64 b.run, .sl .no 1 (es cInt (soberL b x))]:=rfl
 rw[evs]at hwo
 simp only[trF,es_nil,List.length_nil]at hl0
 clear hso evs
 generalize soberL b x=So at*
 generalize A.catchSea n lo hi p=wide at*
 generalize A.catchSea n v v p=just at*
 generalize A.catchSea n lo' hi' p=sob at*
 rw[den_fn t3 _ _ _ rfl]
 simp only[b3]
 simp (maxSteps:=6000000) (disch:=first|omega|assumption|decide +kernel|(simp;done)|(simp;omega)|fail) [run_drawnK,orSlow_none,h1,h2,h3,h4,c5,c5',hwi,-e_Within,-A.e_Within,-e_In,-A.e_In,c7,c7',c8,c8',h5,h6,h7,htr,hwd,w1,w2,k1,k1',hR,k2,k2',hv,n1,n2,hsw,hsj,hsu,hit,hin,hcp,hl0,hwo,hss,hu1,hu2]
end Go.Proofs.YtoedpegjoccnlaaGreat

/-
  What the arguments of TopTrusted read as.
-/
namespace Go.Proofs.YtoedpegjoccnlaaGreat
open Go.Ab
set_option maxRecDepth 100000
theorem bytes30:Tryz.prog.bytesOf 30=16:=by kernel_rfl
theorem bytes84:Tryz.prog.bytesOf 84=16:=by kernel_rfl
theorem fit_sea {n:Nat} {vs:List V}(h:Fit Tryz.prog Reach (n+5) 34 vs): ∃s:A.Sea,vs=A.seaV s∧s.places.length<4611686018427387904∧s.boats.length<4611686018427387904:=by
 rw[Fit,Tryz.underlying34]at h
 simp only[FitF]at h
 obtain⟨_,_,rfl,h0,_,_,rfl,h1,_,_,rfl,h2,rfl⟩:=h
 obtain⟨a,rfl⟩:=A.fit_sp h0
 obtain⟨b,rfl,q1⟩:=A.fit_sps h1
 obtain⟨c,rfl,q2⟩:=A.fit_boats h2
 simp only[Reach,bytes30,bytes84,reachBytes]at q1 q2
 exact⟨⟨a,b,c⟩,rfl,by simp only;omega,by simp only;omega⟩
theorem fit_trusted {n:Nat} {vs:List V}(h:Fit Tryz.prog Reach (n+6) 38 vs): ∃(g:List Int) (m:List (List Int)) (p:Int) (c:List Int) (x:Int),vs=[.sl .no 1 (es cInt g), .sl .no 1 (es cInts m),i64 p, .sl .no 1 (es cInt c),i64 x]∧g.length<4611686018427387904∧m.length<4611686018427387904∧c.length<4611686018427387904:=by
 rw[Fit,Tryz.underlying38]at h
 simp only[FitF]at h
 obtain⟨_,_,rfl,h0,_,_,rfl,h1,_,_,rfl,h2,_,_,rfl,h3,rfl⟩:=h
 obtain⟨a,b,rfl,q1,q2,_⟩:=fit_tale h0
 obtain⟨p,rfl⟩:=fit_int h1
 obtain⟨c,rfl,q3⟩:=fit_ints h2
 obtain⟨x,rfl⟩:=fit_int h3
 exact⟨a,b,p,c,x,rfl,q1,q2,reach_ints q3⟩
end Go.Proofs.YtoedpegjoccnlaaGreat

/-
  TopLed: both Checks of beasts.
-/
import Derived.Test.YtmgkcipcjabigaaGreatDoorEq2
import Derived.Test.YtmgkcipcjabigaaGreatDoorEq1
set_option linter.unusedSimpArgs false
set_option linter.unusedVariables false
namespace Go.Proofs.YtmgkcipcjabigaaGreatDoor
open Go.Ab
@[simp] def cDoorB(d:BDoor):List V:=[i64 d.a,i64 d.b,i64 d.cost]
@[simp] theorem map_cDoorB(r:Ren)(l):(es cDoorB l).map (V.mapAll r)=es cDoorB l:=es_map _ _ (fun _=>by simp) _
@[simp] theorem strip_cDoorB(l):(es cDoorB l).map V.stripAll=es cDoorB l:=es_strip _ (fun _=>by simp) _
@[simp] theorem refs_cDoorB(own:Bool)(d:Nat)(l):(es cDoorB l).flatMap (V.refsAll own d)=[]:=es_refs _ _ _ (fun _=>by simp) _
@[simp] theorem elems_cDoorB(l):elemsOk (es cDoorB l) 3=true:=elemsOk_es _ _ (fun _=>by simp) _
@[simp] theorem BDoor.eta(d:BDoor):BDoor.mk d.a d.b d.cost=d:=rfl
@[simp] abbrev bV(b:BTrap):List V:=[i64 b.chambers, .sl .no 3 (es cDoorB b.doors), .sl .no 1 (es cInt b.seen),i64 b.look,i64 b.eats, .sl .no 1 (es cInt b.places)]
def bdoB(n:Int)(d:BDoor):Bool:=wiB d.a 0 (n-1)&&((wiB d.b 0 (n-1)||decide (d.b= -1))&&(!decide (d.a=d.b)&&wiB d.cost 0 20))
def beastB(b:BTrap):Bool:=wiB b.chambers 1 5&&(decide (b.doors.length≤8)&&(wiB b.look 0 20&&(wiB b.eats 1 9&&(allB (bdoB b.chambers) b.doors&&(rising b.seen 0 (b.chambers-1)&&(rising b.places 0 (b.chambers-1)&& !decide (b.places=[])))))))
structure BeastOk(b:BTrap):Prop where
 ch:1≤b.chambers∧b.chambers≤5
 dl:b.doors.length≤8
 look:0≤b.look∧b.look≤20
 eats:1≤b.eats∧b.eats≤9
 door:allB (bdoB b.chambers) b.doors=true
 seen:rising b.seen 0 (b.chambers-1)=true
 plc:rising b.places 0 (b.chambers-1)=true
 ne: ¬b.places=[]
theorem beast_iff {b:BTrap}:beastB b=true↔BeastOk b:=by
 simp only[beastB,Bool.and_eq_true,decide_eq_true_eq,wiB_iff,Bool.not_eq_true',decide_eq_false_iff_not]
 constructor
 ·rintro⟨h1,h2,h3,h4,h5,h6,h7,h8⟩;exact⟨h1,h2,h3,h4,h5,h6,h7,h8⟩
 ·rintro⟨h1,h2,h3,h4,h5,h6,h7,h8⟩;exact⟨h1,h2,h3,h4,h5,h6,h7,h8⟩
structure FarOk(b:BTrap):Prop where
 doors:b.doors.length≤40
 seen:b.seen.length≤40
 places:b.places.length≤40
def farB(b:BTrap):Bool:=decide (40<b.doors.length)||(decide (40<b.seen.length)||decide (40<b.places.length))
theorem e_Far(b:BTrap)(lab s):den T 4 [.agg (bV b)] lab s=some (.bool (farB b),s):=by
 unfold farB
 rw[den_fn t4 _ _ _ rfl]
 simp only[b4]
 by_cases h1:40<b.doors.length
 ·have h1':(40:Int)<b.doors.length:=by omega
  simp (maxSteps:=1000000) (disch:=first|omega|assumption|decide +kernel|(simp;done)|(simp;omega)|fail) [h1,h1']
 have h1': ¬(40:Int)<b.doors.length:=by omega
 by_cases h2:40<b.seen.length
 ·have h2':(40:Int)<b.seen.length:=by omega
  simp (maxSteps:=1000000) (disch:=first|omega|assumption|decide +kernel|(simp;done)|(simp;omega)|fail) [h1,h1',h2,h2']
 have h2': ¬(40:Int)<b.seen.length:=by omega
 by_cases h3:40<b.places.length
 ·have h3':(40:Int)<b.places.length:=by omega
  simp (maxSteps:=1000000) (disch:=first|omega|assumption|decide +kernel|(simp;done)|(simp;omega)|fail) [h1,h1',h2,h2',h3,h3']
 have h3': ¬(40:Int)<b.places.length:=by omega
 simp (maxSteps:=1000000) (disch:=first|omega|assumption|decide +kernel|(simp;done)|(simp;omega)|fail) [h1,h1',h2,h2',h3,h3']
@[simp] theorem e_within06(n lo hi:Int)(lab s):den T 16 [i64 n,i64 lo,i64 hi] lab s=some (.bool (wiB n lo hi),s):=by
 rw[den_fn t16 _ _ _ rfl]
 simp only[b16]
 by_cases h:lo≤n<;>simp[h,wiB]
@[simp] theorem e_withinB(n lo hi:Int)(lab s):den T 35 [i64 n,i64 lo,i64 hi] lab s=some (.bool (wiB n lo hi),s):=by
 rw[den_fn t35 _ _ _ rfl]
 simp only[b35]
 by_cases h:lo≤n<;>simp[h,wiB]
theorem e_IsCham06(b:BTrap)(h:1≤b.chambers∧b.chambers≤5)(n:Int)(lab s):den T 6 [.agg (bV b),i64 n] lab s=some (.bool (wiB n 0 (b.chambers-1)),s):=by
 have w1:IntKind.i64.wrap (b.chambers-1)=b.chambers-1:=wi _ (by omega) (by omega)
 rw[den_fn t6 _ _ _ rfl]
 simp only[b6]
 simp (maxSteps:=1000000) (disch:=first|omega|assumption|decide +kernel|(simp;done)|(simp;omega)|fail) [w1]
theorem e_chamberB(b:BTrap)(h:1≤b.chambers∧b.chambers≤5)(n:Int)(lab s):den T 24 [.agg (bV b),i64 n] lab s=some (.bool (wiB n 0 (b.chambers-1)),s):=by
 have w1:IntKind.i64.wrap (b.chambers-1)=b.chambers-1:=wi _ (by omega) (by omega)
 rw[den_fn t24 _ _ _ rfl]
 simp only[b24]
 simp (maxSteps:=1000000) (disch:=first|omega|assumption|decide +kernel|(simp;done)|(simp;omega)|fail) [w1]
theorem e_placeB(b:BTrap)(h:1≤b.chambers∧b.chambers≤5)(n:Int)(lab s):den T 34 [.agg (bV b),i64 n] lab s=some (.bool (wiB n 0 (b.chambers-1)||decide (n= -1)),s):=by
 have hc:=fun lab s=>e_chamberB b h n lab s
 rw[den_fn t34 _ _ _ rfl]
 simp only[b34]
 by_cases h1:n= -1
 ·subst h1
  simp (maxSteps:=1000000) (disch:=first|omega|assumption|decide +kernel|(simp;done)|(simp;omega)|fail) []
 ·simp (maxSteps:=1000000) (disch:=first|omega|assumption|decide +kernel|(simp;done)|(simp;omega)|fail) [h1,hc]
set_option maxHeartbeats 2000000 in
theorem e_Check06_l0(b:BTrap)(hf:FarOk b)(h:1≤b.chambers∧b.chambers≤5)(s:Stk):
 ∃g:Ab.Loc,Run T b5l0 [(1, .ptr s.length 16 0),(3,i64 0)] ([(16, .cell (bV b))]::s)=
  if allB (bdoB b.chambers) b.doors=true then some (.exit 0,[(1, .ptr s.length 16 0),(3,i64 b.doors.length),(31, .bool false)],[(16, .cell (bV b))]::s)else some (.ret,[(2,i64 60)],g::s):=by
 have hg:=hf.doors
 refine loop_all_g b.doors (bdoB b.chambers) (fun k=>[(1, .ptr s.length 16 0),(3,i64 k)]) (fun _=>[(16, .cell (bV b))]::s) (fun g:Ab.Loc=>(.ret,[(2,i64 60)],g::s)) _ (by simp) (by simp) ?_ (by simp) _ _ (by simp) (by simp)
 intro k hk
 have hk2:(k:Int)<b.doors.length:=by omega
 have hc:=fun n lab s=>e_IsCham06 b h n lab s
 refine⟨[(16, .cell (bV b)),(64, .cell [i64 b.doors[k].a,i64 b.doors[k].b,i64 b.doors[k].cost])],?_⟩
 unfold bdoB
 generalize hG:b.doors[k]=G at*
 cases c1:wiB G.a 0 (b.chambers-1)
 ·simp (maxSteps:=1000000) (disch:=first|omega|assumption|decide +kernel|(simp;done)|(simp;omega)|fail) [hk,hk2,hG,hc,c1]
 cases c2:wiB G.b 0 (b.chambers-1)
 ·by_cases c3:G.b= -1
  ·have c4': ¬G.a= -1:=by have:=wiB_iff.1 c1;omega
   have c2m:wiB (-1) 0 (b.chambers-1)=false:=by rw[←c3];exact c2
   cases c5:wiB G.cost 0 20
   ·simp (maxSteps:=1000000) (disch:=first|omega|assumption|decide +kernel|(simp;done)|(simp;omega)|fail) [hk,hk2,hG,hc,c1,c2m,c3,c4',c5]
   ·simp (maxSteps:=1000000) (disch:=first|omega|assumption|decide +kernel|(simp;done)|(simp;omega)|fail) [hk,hk2,hG,hc,c1,c2m,c3,c4',c5,wk k (by omega)]
  ·simp (maxSteps:=1000000) (disch:=first|omega|assumption|decide +kernel|(simp;done)|(simp;omega)|fail) [hk,hk2,hG,hc,c1,c2,c3]
 by_cases c4:G.a=G.b
 ·simp (maxSteps:=1000000) (disch:=first|omega|assumption|decide +kernel|(simp;done)|(simp;omega)|fail) [hk,hk2,hG,hc,c1,c2,c4]
 ·cases c5:wiB G.cost 0 20
  ·simp (maxSteps:=1000000) (disch:=first|omega|assumption|decide +kernel|(simp;done)|(simp;omega)|fail) [hk,hk2,hG,hc,c1,c2,c4,c5]
  ·simp (maxSteps:=1000000) (disch:=first|omega|assumption|decide +kernel|(simp;done)|(simp;omega)|fail) [hk,hk2,hG,hc,c1,c2,c4,c5,wk k (by omega)]
set_option maxHeartbeats 1000000 in
theorem e_Check06(b:BTrap)(hf:FarOk b)(lab s):den T 5 [.agg (bV b)] lab s=some (i64 (if beastB b=true then 0 else 60),s):=by
 have h1:=hf.doors
 have h2:=hf.seen
 have h3:=hf.places
 unfold beastB
 rw[den_fn t5 _ _ _ rfl]
 simp only[b5]
 by_cases c0:1≤b.chambers∧b.chambers≤5
 rotate_left
 ·have c1:wiB b.chambers 1 5=false:=by cases h:wiB b.chambers 1 5;rfl;exact absurd (wiB_iff.1 h) c0
  simp (maxSteps:=1000000) (disch:=first|omega|assumption|decide +kernel|(simp;done)|(simp;omega)|fail) [c1]
 have c1:wiB b.chambers 1 5=true:=wiB_iff.2 c0
 have w1:IntKind.i64.wrap (b.chambers-1)=b.chambers-1:=wi _ (by omega) (by omega)
 by_cases c4:b.doors.length≤8
 rotate_left
 ·have c4':(8:Int)<b.doors.length:=by omega
  simp (maxSteps:=1000000) (disch:=first|omega|assumption|decide +kernel|(simp;done)|(simp;omega)|fail) [c1,c4,c4',w1]
 have c4': ¬(8:Int)<b.doors.length:=by omega
 cases c2:wiB b.look 0 20
 ·simp (maxSteps:=1000000) (disch:=first|omega|assumption|decide +kernel|(simp;done)|(simp;omega)|fail) [c1,c4,c4',c2]
 cases c3:wiB b.eats 1 9
 ·simp (maxSteps:=1000000) (disch:=first|omega|assumption|decide +kernel|(simp;done)|(simp;omega)|fail) [c1,c4,c4',c2,c3]
 obtain⟨g,hl⟩:=e_Check06_l0 b hf c0 s
 cases c5:allB (bdoB b.chambers) b.doors
 ·rw[c5]at hl
  simp (maxSteps:=1000000) (disch:=first|omega|assumption|decide +kernel|(simp;done)|(simp;omega)|fail) [c1,c2,c3,c4,c4',w1,hl]
 rw[c5]at hl
 cases c6:rising b.seen 0 (b.chambers-1)
 ·simp (maxSteps:=1000000) (disch:=first|omega|assumption|decide +kernel|(simp;done)|(simp;omega)|fail) [c1,c2,c3,c4,c4',c6,w1,hl]
 cases c7:rising b.places 0 (b.chambers-1)
 ·simp (maxSteps:=1000000) (disch:=first|omega|assumption|decide +kernel|(simp;done)|(simp;omega)|fail) [c1,c2,c3,c4,c4',c6,c7,w1,hl]
 by_cases c8:b.places=[]
 ·have c8':b.places.length=0:=by rw[c8];rfl
  have c9:(decide (b.places=[]))=true:=by rw[c8];rfl
  rw[c9]
  simp (maxSteps:=1000000) (disch:=first|omega|assumption|decide +kernel|(simp;done)|(simp;omega)|fail) [c1,c2,c3,c4,c4',c6,c7,c8',w1,hl]
 ·have c8': ¬b.places.length=0:=fun h=>c8 (List.length_eq_zero_iff.1 h)
  have c9:(decide (b.places=[]))=false:=by simpa using c8
  rw[c9]
  simp (maxSteps:=1000000) (disch:=first|omega|assumption|decide +kernel|(simp;done)|(simp;omega)|fail) [c1,c2,c3,c4,c4',c6,c7,c8',w1,hl]
theorem e_BCheck1(b:BTrap)(h:1≤b.chambers∧b.chambers≤5)(n:Int)(d l:Nat)(s:Stk)(hg:sget s d l=some (.cell (bV b)))(hd: ¬d=s.length)(lab):
 den T 32 [i64 n, .ptr d l 0] lab s=some (.bool (wiB n 0 (b.chambers-1)),s):=by
 have hc:=fun lab s=>e_chamberB b h n lab s
 rw[den_fn t32 _ _ _ rfl]
 simp only[b32]
 simp (maxSteps:=1000000) (disch:=first|omega|assumption|decide +kernel|(simp;done)|(simp;omega)|fail) [hg,hd,hc]
set_option maxHeartbeats 1000000 in
theorem e_BCheck2(b:BTrap)(h:1≤b.chambers∧b.chambers≤5)(w:BDoor)(hw:bdoB b.chambers w=true)(d l:Nat)(s:Stk)(hg:sget s d l=some (.cell (bV b)))(hd: ¬d=s.length)(lab):
 den T 33 [.agg [i64 w.a,i64 w.b,i64 w.cost], .ptr d l 0] lab s=some (.bool false,s):=by
 have hc:=fun n lab s=>e_chamberB b h n lab s
 have hp:=fun n lab s=>e_placeB b h n lab s
 simp only[bdoB,Bool.and_eq_true,Bool.not_eq_true',decide_eq_false_iff_not,Bool.or_eq_true,decide_eq_true_eq]at hw
 obtain⟨c1,c2,c4,c5⟩:=hw
 rw[den_fn t33 _ _ _ rfl]
 simp only[b33]
 by_cases c3:w.b= -1
 ·have c4': ¬w.a= -1:=by rw[←c3];exact c4
  have c2m:wiB (-1) 0 (b.chambers-1)=false:=by cases h:wiB (-1) 0 (b.chambers-1);rfl;have:=wiB_iff.1 h;omega
  simp (maxSteps:=1000000) (disch:=first|omega|assumption|decide +kernel|(simp;done)|(simp;omega)|fail) [hg,hd,hc,hp,c1,c2m,c3,c4',c5]
 ·have c2:=c2.resolve_right c3
  simp (maxSteps:=1000000) (disch:=first|omega|assumption|decide +kernel|(simp;done)|(simp;omega)|fail) [hg,hd,hc,hp,c1,c2,c3,c4,c5]
end Go.Proofs.YtmgkcipcjabigaaGreatDoor

/-
  TopLed: the program's Check; copies.
-/
namespace Go.Proofs.YtmgkcipcjabigaaGreatDoor
open Go.Ab
set_option maxHeartbeats 1000000 in
theorem e_risingB_l(b:BTrap)(h:1≤b.chambers∧b.chambers≤5)(l:List Int)(hl:l.length<4611686018427387904)(hr:rising l 0 (b.chambers-1)=true)(d lb:Nat)(s:Stk)(hg:sget s d lb=some (.cell (bV b)))(hd:d<s.length):
 Run T b37l0 [(0, .sl .no 1 (es cInt l)),(1, .fn 32 [] [.ptr d lb 0]),(7, .sl .no 1 (es cInt l)),(8,i64 l.length),(9,i64 0)] ([]::s)=
  some (.exit 0,[(0, .sl .no 1 (es cInt l)),(1, .fn 32 [] [.ptr d lb 0]),(7, .sl .no 1 (es cInt l)),(8,i64 l.length),(9,i64 l.length),(10, .bool false)],[]::s):=by
 have hd2: ¬d=s.length:=by omega
 have hd3: ¬d=s.length+1:=by omega
 have key:=loop_all (T:=Go.Proofs.YtmgkcipcjabigaaGreatDoor.T) (live:=[0,1,7,8,9]) (keep:=[]) (b:=d37l0) (List.range l.length) (fun _=>true) (fun k=>[(0, .sl .no 1 (es cInt l)),(1, .fn 32 [] [.ptr d lb 0]),(7, .sl .no 1 (es cInt l)),(8,i64 l.length),(9,i64 (k:Nat))]) (fun _=>[]::s) (.ret,[],[]::s) (.exit 0,[(0, .sl .no 1 (es cInt l)),(1, .fn 32 [] [.ptr d lb 0]),(7, .sl .no 1 (es cInt l)),(8,i64 l.length),(9,i64 l.length),(10, .bool false)],[]::s) (by simp) (by simp[hd2]) ?_ ?_
  [(0, .sl .no 1 (es cInt l)),(1, .fn 32 [] [.ptr d lb 0]),(7, .sl .no 1 (es cInt l)),(8,i64 l.length),(9,i64 0)] ([]::s) (by simp[hd2]) (by simp)
 ·rw[show allB (fun _:Nat=>true) (List.range l.length)=true by simp[allB],if_pos rfl]at key
  exact key
 ·intro k hk
  simp only[List.length_range]at hk
  rw[if_pos rfl]
  have hk2:(k:Int)<l.length:=by omega
  obtain⟨r1,r2,r3⟩:=rising_mem hr hk
  have hc:=fun n lab=>e_BCheck1 b h n d lb ([]::s) (by simp[hd2,hg]) (by simp;omega) lab
  have hw:wiB l[k] 0 (b.chambers-1)=true:=wiB_iff.2 ⟨r1,r2⟩
  cases k with
  |zero=>
    generalize hv:l[0]=v at*
    have w0:IntKind.i64.wrap 1=1:=wi _ (by omega) (by omega)
    simp (maxSteps:=1000000) (disch:=first|omega|assumption|decide +kernel|(simp;done)|(simp;omega)|fail) [hk,hk2,hv,hc,hw,hd2,hd3,w0]
  |succ j=>
    have hj:j<l.length:=by omega
    have hj2:(j:Int)<l.length:=by omega
    have hk3:(j:Int)+1<l.length:=by omega
    have hk4:0≤(j:Int)+1:=by omega
    have r3:=r3 (by omega)
    rw[show l.getD (j+1-1) 0=l[j]by simp[List.getD,hj]]at r3
    have w1:IntKind.i64.wrap ((j:Int)+1-1)=j:=by rw[wi _ (by omega) (by omega)];omega
    have w2:IntKind.i64.wrap (j:Int)=j:=wi _ (by omega) (by omega)
    have w3:IntKind.i64.wrap ((j:Int)+1+1)=(j:Int)+1+1:=wi _ (by omega) (by omega)
    generalize hv:l[j+1]=v at*
    generalize hu:l[j]=u at*
    have r4: ¬v≤u:=by omega
    simp (maxSteps:=1000000) (disch:=first|omega|assumption|decide +kernel|(simp;done)|(simp;omega)|fail) [hk,hk3,hk4,hv,hu,hj,hj2,hc,hw,hd2,hd3,w1,w2,w3,r3,r4]
 ·simp (maxSteps:=1000000) (disch:=first|omega|assumption|decide +kernel|(simp;done)|(simp;omega)|fail) [hd2]
theorem e_risingB(b:BTrap)(h:1≤b.chambers∧b.chambers≤5)(l:List Int)(hl:l.length<4611686018427387904)(hr:rising l 0 (b.chambers-1)=true)(d lb:Nat)(s:Stk)(hg:sget s d lb=some (.cell (bV b)))(hd:d<s.length)(lab):
 den T 37 [.sl .no 1 (es cInt l), .fn 32 [] [.ptr d lb 0]] lab s=some (.bool true,s):=by
 have key:=e_risingB_l b h l hl hr d lb s hg hd
 have hd2: ¬d=s.length:=by omega
 rw[den_fn t37 _ _ _ rfl]
 simp only[b37]
 simp (maxSteps:=1000000) (disch:=first|omega|assumption|decide +kernel|(simp;done)|(simp;omega)|fail) [key,hd2]
set_option maxHeartbeats 1000000 in
theorem e_ContainsB(b:BTrap)(h:1≤b.chambers∧b.chambers≤5)(ws:List BDoor)(hw:allB (bdoB b.chambers) ws=true)(d l:Nat)(s:Stk)(hg:sget s d l=some (.cell (bV b)))(hd:d<s.length)(hl:ws.length<4611686018427387904)(lab):
 den T 36 [.sl .no 3 (es cDoorB ws), .fn 33 [] [.ptr d l 0]] lab s=some (.bool false,s):=by
 have hd2: ¬d=s.length:=by omega
 have hd3: ¬d=s.length+1:=by omega
 have hd4: ¬d=s.length+1+1:=by omega
 have hi: ∀lab,den T 51 [.sl .no 3 (es cDoorB ws), .fn 33 [] [.ptr d l 0]] lab ([]::s)=some (i64 (-1),[]::s):=by
  have key:=loop_all (T:=Go.Proofs.YtmgkcipcjabigaaGreatDoor.T) (live:=[0,1,7,8]) (keep:=[]) (b:=d51l0) ws (fun w=>bdoB b.chambers w) (fun k=>[(0, .sl .no 3 (es cDoorB ws)),(1, .fn 33 [] [.ptr d l 0]),(7,i64 ws.length),(8,i64 (k:Nat))]) (fun _=>[]::[]::s) (.ret,[],[]) (.exit 0,[(0, .sl .no 3 (es cDoorB ws)),(1, .fn 33 [] [.ptr d l 0]),(7,i64 ws.length),(8,i64 ws.length),(9, .bool false)],[]::[]::s) (by simp) (by simp[hd2,hd3]) ?_ ?_
   [(0, .sl .no 3 (es cDoorB ws)),(1, .fn 33 [] [.ptr d l 0]),(7,i64 ws.length),(8,i64 0)] ([]::[]::s) (by simp[hd2,hd3]) (by simp)
  ·rw[hw,if_pos rfl]at key
   change Run T b51l0 _ _=_ at key
   intro lab
   rw[den_fn t51 _ _ _ rfl]
   simp only[b51]
   simp (maxSteps:=1000000) (disch:=first|omega|assumption|decide +kernel|(simp;done)|(simp;omega)|fail) [key,hd2,hd3]
  ·intro k hk
   have hk2:(k:Int)<ws.length:=by omega
   have hb:bdoB b.chambers ws[k]=true:=by
    simp only[allB,List.all_eq_true]at hw
    exact hw _ (List.getElem_mem hk)
   rw[if_pos hb]
   have hc:=fun lab=>e_BCheck2 b h ws[k] hb d l ([]::[]::s) (by simp[hd2,hd3,hg]) (by simp;omega) lab
   generalize hW:ws[k]=w at*
   simp (maxSteps:=1000000) (disch:=first|omega|assumption|decide +kernel|(simp;done)|(simp;omega)|fail) [hk,hk2,hW,hc,hd2,hd3,hd4,wk k (by omega)]
  ·simp (maxSteps:=1000000) (disch:=first|omega|assumption|decide +kernel|(simp;done)|(simp;omega)|fail) [hd2,hd3]
 rw[den_fn t36 _ _ _ rfl]
 simp only[b36]
 simp (maxSteps:=1000000) (disch:=first|omega|assumption|decide +kernel|(simp;done)|(simp;omega)|fail) [hi,hd2]
theorem len_rise {l:List Int} {n:Int}(h:rising l 0 n=true)(hn:n≤4):l.length≤5:=by
 have key: ∀k (hk:k<l.length),(k:Int)≤l[k]:=by
  intro k
  induction k with
  |zero=>intro hk;have:=rising_mem h hk;omega
  |succ k ih=>
    intro hk
    have h1:=ih (by omega)
    have h2:=(rising_mem h hk).2.2 (by omega)
    rw[show l.getD (k+1-1) 0=l[k]by simp[List.getD,show k<l.length by omega]]at h2
    omega
 by_cases h0:l.length=0
 ·omega
 have h1:=key (l.length-1) (by omega)
 have h2:=(rising_mem h (show l.length-1<l.length by omega)).2.1
 omega
set_option maxHeartbeats 1000000 in
theorem e_CheckB(b:BTrap)(h:BeastOk b)(lab s):den T 23 [.agg (bV b)] lab s=some (i64 0,s):=by
 have c1:wiB b.chambers 1 5=true:=wiB_iff.2 h.ch
 have c2:wiB b.look 0 20=true:=wiB_iff.2 h.look
 have c3:wiB b.eats 1 9=true:=wiB_iff.2 h.eats
 have hdl:=h.dl
 have c4: ¬(8:Int)<b.doors.length:=by omega
 have hch:=h.ch
 have l1:=len_rise h.seen (by omega)
 have l2:=len_rise h.plc (by omega)
 have c5: ¬b.places.length=0:=fun e=>h.ne (List.length_eq_zero_iff.1 e)
 have h1:=fun(F:Ab.Loc) (hF:Loc.get F 16=some (.cell (bV b))) lab=>e_ContainsB b h.ch b.doors h.door s.length 16 (F::s) (by simp[hF]) (by simp) (by omega) lab
 have h2:=fun(F:Ab.Loc) (hF:Loc.get F 16=some (.cell (bV b))) lab=>e_risingB b h.ch b.seen (by omega) h.seen s.length 16 (F::s) (by simp[hF]) (by simp) lab
 have h3:=fun(F:Ab.Loc) (hF:Loc.get F 16=some (.cell (bV b))) lab=>e_risingB b h.ch b.places (by omega) h.plc s.length 16 (F::s) (by simp[hF]) (by simp) lab
 rw[den_fn t23 _ _ _ rfl]
 simp only[b23]
 simp (maxSteps:=1000000) (disch:=first|omega|assumption|decide +kernel|(simp;done)|(simp;omega)|fail) [c1,c2,c3,c4,c5,h1,h2,h3]
end Go.Proofs.YtmgkcipcjabigaaGreatDoor

/-
  TopLed: copies of a trap of beasts; doors that cost nothing.
-/
namespace Go.Proofs.YtmgkcipcjabigaaGreatDoor
open Go.Ab
set_option maxHeartbeats 1000000 in
theorem e_Copy06_1(b:BTrap)(hf:FarOk b)(hs: ¬b.seen=[])(hp: ¬b.places=[])(lab)(loc:Ab.Loc)(s:Stk)(k0:loc.get lab=none)(k1:loc.get (lab+1000)=none)(k2:loc.get (lab+2000)=none):
 den T 8 [.agg (bV b)] lab (loc::s)=some (.agg [i64 b.chambers, .asl s.length lab 3 b.doors.length 0 b.doors.length, .sl (.own s.length (lab+1000)) 1 (es cInt b.seen),i64 b.look,i64 b.eats, .sl (.own s.length (lab+2000)) 1 (es cInt b.places)],
  ((loc.put lab (.arr 3 (es cDoorB b.doors))).put (lab+1000) (.tok b.seen.length)).put (lab+2000) (.tok b.places.length)::s):=by
 have h1:=hf.doors
 have h2:=hf.seen
 have h3:=hf.places
 rw[den_fn t8 _ _ _ rfl]
 simp only[b8]
 simp (maxSteps:=1000000) (disch:=first|omega|assumption|decide +kernel|(simp;done)|(simp;omega)|fail) [appmK_es,appmD_es,appK_full,hs,hp,run_drawnK,orSlow_none,k0,k1,k2]
set_option maxHeartbeats 1000000 in
theorem e_Copy06_0(b:BTrap)(hf:FarOk b)(hs:b.seen=[])(hp: ¬b.places=[])(lab)(loc:Ab.Loc)(s:Stk)(k0:loc.get lab=none)(k1:loc.get (lab+1000)=none):
 den T 8 [.agg (bV b)] lab (loc::s)=some (.agg [i64 b.chambers, .asl s.length lab 3 b.doors.length 0 b.doors.length, .sl .full 1 [],i64 b.look,i64 b.eats, .sl (.own s.length (lab+1000)) 1 (es cInt b.places)],
  (loc.put lab (.arr 3 (es cDoorB b.doors))).put (lab+1000) (.tok b.places.length)::s):=by
 have h1:=hf.doors
 have h3:=hf.places
 have hs':es cInt b.seen=[]:=by rw[hs];rfl
 rw[den_fn t8 _ _ _ rfl]
 simp only[b8]
 simp (maxSteps:=1000000) (disch:=first|omega|assumption|decide +kernel|(simp;done)|(simp;omega)|fail) [appmK_es,appmD_es,appK_full,appK_full_nil,hs',hp,run_drawnK,orSlow_none,k0,k1]
def zeroD3(d:BDoor):BDoor:= {d with cost:=0}
def freedB(b:BTrap)(i:Nat):BTrap:= {b with doors:=b.doors.modify i zeroD3}
theorem es_setDoor(ds:List BDoor)(j:Nat)(hj:j<ds.length)(x y:Int)(h1:ds[j].a=x)(h2:ds[j].b=y):(es cDoorB ds).set j [i64 x,i64 y,i64 0]=es cDoorB (ds.modify j zeroD3):=by
 apply List.ext_getElem?
 intro i
 simp only[es,List.getElem?_set,List.getElem?_map,List.getElem?_modify,List.length_map]
 by_cases e:j=i
 ·subst e
  simp[hj,zeroD3,←h1,←h2]
 ·simp[e]
set_option maxHeartbeats 2000000 in
theorem e_Freed(b:BTrap)(hf:FarOk b)(hp: ¬b.places=[])(i:Nat)(hi:i<b.doors.length)(lab s):
 den T 9 [.agg (bV b),i64 (i:Nat)] lab s=some (.agg (bV (freedB b i)),s):=by
 have h1:=hf.doors
 have hi2:(i:Int)<b.doors.length:=by omega
 have hset:=es_setDoor b.doors i hi b.doors[i].a b.doors[i].b rfl rfl
 have hlen:(b.doors.modify i zeroD3).length=b.doors.length:=by simp
 unfold freedB
 generalize hG:b.doors[i]=G at*
 generalize b.doors.modify i zeroD3=ds' at*
 by_cases hs:b.seen=[]
 ·have hC:=fun loc s lab k0 k1=>e_Copy06_0 b hf hs hp lab loc s k0 k1
  have hs':es cInt b.seen=[]:=by rw[hs];rfl
  simp only[bV,hs']at hC
  have htk:ds'.take b.doors.length=ds':=List.take_of_length_le (by omega)
  rw[den_fn t9 _ _ _ rfl]
  simp only[b9]
  simp (maxSteps:=1000000) (disch:=first|omega|assumption|decide +kernel|(simp;done)|(simp;omega)|fail) [hC,hi,hi2,hG,hset,hlen,htk,hs']
 ·have hC:=fun loc s lab k0 k1 k2=>e_Copy06_1 b hf hs hp lab loc s k0 k1 k2
  have htk:ds'.take b.doors.length=ds':=List.take_of_length_le (by omega)
  rw[den_fn t9 _ _ _ rfl]
  simp only[b9]
  simp (maxSteps:=1000000) (disch:=first|omega|assumption|decide +kernel|(simp;done)|(simp;omega)|fail) [hC,hi,hi2,hG,hset,hlen,htk]
end Go.Proofs.YtmgkcipcjabigaaGreatDoor

/-
  TopLed: beliefs.
-/
namespace Go.Proofs.YtmgkcipcjabigaaGreatDoor
open Go.Ab
abbrev u8(n:Int):V:= .int .u8 n
theorem an8: ∀a,a<16→ ∀b,b<16→anB a b<16:=by decide +kernel
theorem or8: ∀a,a<16→ ∀b,b<16→orB a b<16:=by decide +kernel
theorem sh8: ∀n,n<4→shN n<16:=by decide +kernel
theorem wan: ∀a,a<16→ ∀b,b<16→IntKind.u8.wrap ((BitVec.ofInt 8 (a:Nat)&&&BitVec.ofInt 8 (b:Nat)).toNat:Int)=((anB a b:Nat):Int):=by decide +kernel
theorem wor: ∀a,a<16→ ∀b,b<16→IntKind.u8.wrap ((BitVec.ofInt 8 (a:Nat)|||BitVec.ofInt 8 (b:Nat)).toNat:Int)=((orB a b:Nat):Int):=by decide +kernel
theorem wno: ∀a,a<16→ ∀b,b<16→IntKind.u8.wrap ((BitVec.ofInt 8 (a:Nat)&&& ~~~BitVec.ofInt 8 (b:Nat)).toNat:Int)=((noB a b:Nat):Int):=by decide +kernel
theorem wlo: ∀a,a<16→IntKind.u8.wrap ((BitVec.ofInt 8 (a:Nat)&&&BitVec.ofInt 8 1).toNat:Int)=((lowN a:Nat):Int):=by decide +kernel
theorem wsh: ∀n,n<5→IntKind.u8.wrap (1*2^min ((n:Nat):Int).toNat 8)=((shN n:Nat):Int):=by decide +kernel
theorem wsr: ∀a,a<16→ ∀n,n<6→((a:Nat):Int).fdiv (2^min ((n:Nat):Int).toNat 8)=((shrN a n:Nat):Int):=by decide +kernel
theorem band8 {a b:Nat}(ha:a<16)(hb:b<16):bin .and (u8 (a:Nat)) (u8 (b:Nat))=some (u8 ((anB a b:Nat):Int)):=by
 rw[bin_and];exact congrArg (fun x=>some (V.int .u8 x)) (wan a ha b hb)
theorem bor8 {a b:Nat}(ha:a<16)(hb:b<16):bin .or (u8 (a:Nat)) (u8 (b:Nat))=some (u8 ((orB a b:Nat):Int)):=by
 rw[bin_or];exact congrArg (fun x=>some (V.int .u8 x)) (wor a ha b hb)
theorem bno8 {a b:Nat}(ha:a<16)(hb:b<16):bin .andNot (u8 (a:Nat)) (u8 (b:Nat))=some (u8 ((noB a b:Nat):Int)):=by
 rw[bin_andNot];exact congrArg (fun x=>some (V.int .u8 x)) (wno a ha b hb)
theorem blo8 {a:Nat}(ha:a<16):bin .and (u8 (a:Nat)) (u8 1)=some (u8 ((lowN a:Nat):Int)):=by
 rw[bin_and];exact congrArg (fun x=>some (V.int .u8 x)) (wlo a ha)
theorem bsh8 {n:Nat}(hn:n<5):bin .shl (u8 1) (i64 (n:Nat))=some (u8 ((shN n:Nat):Int)):=by
 have h2: ¬(n:Int)<0:=by omega
 rw[bin_shl,if_neg h2];exact congrArg (fun x=>some (V.int .u8 x)) (wsh n hn)
theorem bsr8 {a n:Nat}(ha:a<16)(hn:n<6):bin .shr (u8 (a:Nat)) (i64 (n:Nat))=some (u8 ((shrN a n:Nat):Int)):=by
 have h2: ¬(n:Int)<0:=by omega
 rw[bin_shr,if_neg h2];exact congrArg (fun x=>some (V.int .u8 x)) (wsr a ha n hn)
def top4(g:Nat):Nat:=((List.range 5).find? fun n=>g>>>n==0).getD 4
def bit4(g:Nat)(a:List Int)(k:Nat):List Int:=if lowN (shrN g k)=1 then a ++[(k:Int)-1]else a
theorem top4_le: ∀g,g<16→top4 g≤4:=by decide +kernel
theorem top4_pos: ∀g,g<16→ ∀k,k<top4 g→0<shrN g k:=by
 intro g hg k hk
 have h5:=top4_le g hg
 have: ∀g,g<16→ ∀k,k<4→k<top4 g→0<shrN g k:=by decide +kernel
 exact this g hg k (by omega) hk
theorem top4_end: ∀g,g<16→shrN g (top4 g)=0:=by decide +kernel
theorem top4_bits: ∀g,g<16→(List.range (top4 g)).foldl (bit4 g) []=plN g:=by decide +kernel
theorem pl_in: ∀g,g<16→ ∀p∈plN g,-1≤p∧p≤2:=by decide +kernel
theorem pl_len: ∀g,g<16→(plN g).length≤4:=by decide +kernel
set_option maxHeartbeats 2000000 in
theorem e_plN_l(g:Nat)(hg:g<16)(s:Stk):
 Run T b83l0 [(3, .sl (.own s.length 49) 1 []),(0,u8 (g:Nat)),(3, .sl .full 1 []),(4,i64 (-1))] ([(49, .tok 0)]::s)=
  some (.exit 0,[(0,u8 (g:Nat)),(3, .sl (.own s.length 49) 1 (es cInt (plN g))),(4,i64 ((top4 g:Nat)-1)),(9, .bool false)],[(49, .tok (plN g).length)]::s):=by
 have h5:=top4_le g hg
 have key:=loop_fold (T:=T) (live:=[0,3,4]) (keep:=[49]) (b:=d83l0) (List.range (top4 g)) (fun k (a:List Int)=>a.length≤k) (bit4 g)
  (fun k a=>[(0,u8 (g:Nat)),(3, .sl (.own s.length 49) 1 (es cInt a)),(4,i64 ((k:Nat)-1))]) (fun _ a=>[(49, .tok a.length)]::s)
  (fun a=>(.exit 0,[(0,u8 (g:Nat)),(3, .sl (.own s.length 49) 1 (es cInt a)),(4,i64 ((top4 g:Nat)-1)),(9, .bool false)],[(49, .tok a.length)]::s))
  (by simp) ?_ ?_ ?_ [] (by simp) [(3, .sl (.own s.length 49) 1 []),(0,u8 (g:Nat)),(3, .sl .full 1 []),(4,i64 (-1))] ([(49, .tok 0)]::s) (by simp) (by simp)
 ·rw[top4_bits g hg]at key
  exact key
 ·intro k a hk hi
  simp only[List.length_range]at hk
  simp only[List.getElem_range]
  have h3:=top4_pos g hg k hk
  have e0:es cInt a ++[[i64 ((k:Int)-1)]]=es cInt (a ++[(k:Int)-1]):=by simp[es]
  have hs:=shr_le g k
  have hb1:=bsr8 (a:=g) (n:=k) hg (by omega)
  have hb2:=blo8 (a:=shrN g k) (by omega)
  have w1:IntKind.i64.wrap ((k:Int)-1+1)=k:=by rw[wi _ (by omega) (by omega)];omega
  have w2:IntKind.i64.wrap (k:Int)=k:=wi _ (by omega) (by omega)
  have e1:((k+1:Nat):Int)-1=k:=by omega
  unfold bit4
  have hl:=low_le (shrN g k)
  rw[e1]
  generalize shrN g k=x at*
  generalize lowN x=y at*
  have h3': ¬(x:Int)=0:=by omega
  have h3'': ¬x=0:=by omega
  by_cases hy:y=1
  ·have hy':(y:Int)=1:=by omega
   rw[if_pos hy]
   simp (maxSteps:=1000000) (disch:=first|omega|assumption|decide +kernel|(simp;done)|(simp;omega)|fail) [hb1,hb2,h3',h3'',hy,hy',e0,appK_own1,w1,w2,-bin_shr,-bin_and]
  ·have hy': ¬(y:Int)=1:=by omega
   rw[if_neg hy]
   simp (maxSteps:=1000000) (disch:=first|omega|assumption|decide +kernel|(simp;done)|(simp;omega)|fail) [hb1,hb2,h3',h3'',hy,hy',w1,w2,-bin_shr,-bin_and]
 ·intro k a hk hi
  unfold bit4
  split<;>(try simp only[List.length_append,List.length_cons,List.length_nil])<;>omega
 ·intro a hi
  simp only[List.length_range]
  have h1:=bsr8 (a:=g) (n:=top4 g) hg (by omega)
  rw[top4_end g hg]at h1
  have w1:IntKind.i64.wrap (((top4 g:Nat):Int)-1+1)=(top4 g:Nat):=by rw[wi _ (by omega) (by omega)];omega
  have w2:IntKind.i64.wrap ((top4 g:Nat):Int)=(top4 g:Nat):=wi _ (by omega) (by omega)
  generalize top4 g=n at*
  simp (maxSteps:=1000000) (disch:=first|omega|assumption|decide +kernel|(simp;done)|(simp;omega)|fail) [h1,w1,w2,-bin_shr]
theorem e_plN(g:Nat)(hg:g<16)(lab s):den T 83 [u8 (g:Nat)] lab s=some (.sl .no 1 (es cInt (plN g)),s):=by
 have key:=e_plN_l g hg s
 rw[den_fn t83 _ _ _ rfl]
 simp only[b83]
 simp (maxSteps:=1000000) (disch:=first|omega|assumption|decide +kernel|(simp;done)|(simp;omega)|fail) [key]
end Go.Proofs.YtmgkcipcjabigaaGreatDoor

/-
  TopLed: beliefs: of, through, move.
-/
namespace Go.Proofs.YtmgkcipcjabigaaGreatDoor
open Go.Ab
set_option maxHeartbeats 1000000 in
theorem e_of(l:List Int)(hl:l.length≤40)(hp: ∀p∈l,-1≤p∧p≤2)(lab s):den T 40 [.sl .no 1 (es cInt l)] lab s=some (u8 (ofN l),s):=by
 have key:=loop_fold (T:=T) (live:=[2,5,6,7]) (keep:=[]) (b:=d40l0) l (fun _ (g:Nat)=>g<16) (fun g n=>orB g (shN (atN n)))
  (fun k g=>[(2,u8 (g:Nat)),(5, .sl .no 1 (es cInt l)),(6,i64 l.length),(7,i64 (k:Nat))]) (fun _ _=>[]::s)
  (fun g=>(.exit 0,[(2,u8 (g:Nat)),(5, .sl .no 1 (es cInt l)),(6,i64 l.length),(7,i64 l.length),(8, .bool false)],[]::s))
  (by simp) ?_ ?_ ?_ 0 (by omega) [(2,u8 0),(5, .sl .no 1 (es cInt l)),(6,i64 l.length),(7,i64 0)] ([]::s) (by simp) (by simp)
 ·change Run T b40l0 _ _=_ at key
  rw[show l.foldl (fun g n=>orB g (shN (atN n))) 0=ofN l from rfl]at key
  generalize ofN l=r at*
  rw[den_fn t40 _ _ _ rfl]
  simp only[b40]
  simp (maxSteps:=1000000) (disch:=first|omega|assumption|decide +kernel|(simp;done)|(simp;omega)|fail) [key]
 ·intro k g hk hg
  have hk2:(k:Int)<l.length:=by omega
  have h1:=hp _ (List.getElem_mem hk)
  generalize hv:l[k]=p at*
  obtain⟨m,hm⟩: ∃m:Nat,p+1=m:=⟨(p+1).toNat,by omega⟩
  have e1:atN p=m:=by unfold atN;omega
  have hm4:m<4:=by omega
  have w1:IntKind.i64.wrap (p+1)=m:=by rw[hm];exact wi _ (by omega) (by omega)
  have b1:=bsh8 (n:=m) (by omega)
  have b2:=bor8 (a:=g) (b:=shN m) hg (sh8 _ hm4)
  rw[e1]
  generalize shN m=x at*
  generalize orB g x=y at*
  simp (maxSteps:=1000000) (disch:=first|omega|assumption|decide +kernel|(simp;done)|(simp;omega)|fail) [hk,hk2,hv,w1,b1,b2,wk k (by omega),-bin_shl,-bin_or]
 ·intro k g hk hg
  have h1:=hp _ (List.getElem_mem hk)
  exact or8 _ hg _ (sh8 _ (by unfold atN;omega))
 ·intro g hg
  simp
theorem e_through(d:BDoor)(p:Int)(lab s):den T 84 [.agg [i64 d.a,i64 d.b,i64 d.cost],i64 p] lab s=some (i64 (thr d p),s):=by
 unfold thr
 rw[den_fn t84 _ _ _ rfl]
 simp only[b84]
 by_cases h1:p= -1
 ·simp (maxSteps:=1000000) (disch:=first|omega|assumption|decide +kernel|(simp;done)|(simp;omega)|fail) [h1]
 by_cases h2:p=d.a
 ·have h1': ¬d.a= -1:=by rw[←h2];exact h1
  simp (maxSteps:=1000000) (disch:=first|omega|assumption|decide +kernel|(simp;done)|(simp;omega)|fail) [h1',h2]
 by_cases h3:p=d.b
 ·have h1': ¬d.b= -1:=by rw[←h3];exact h1
  have h2': ¬d.b=d.a:=by rw[←h3];exact h2
  simp (maxSteps:=1000000) (disch:=first|omega|assumption|decide +kernel|(simp;done)|(simp;omega)|fail) [h1',h2',h3]
 ·simp (maxSteps:=1000000) (disch:=first|omega|assumption|decide +kernel|(simp;done)|(simp;omega)|fail) [h1,h2,h3]
def InD(d:BDoor):Prop:=(0≤d.a∧d.a≤2)∧ -1≤d.b∧d.b≤2
theorem thr_in {d:BDoor}(h:InD d) {p:Int}(hp: -1≤p∧p≤2): -1≤thr d p∧thr d p≤2:=by
 have h1:=h.1
 have h2:=h.2
 unfold thr
 split
 ·omega
 ·split
  ·omega
  ·split<;>omega
set_option maxHeartbeats 1000000 in
theorem e_move(g0:Nat)(hg0:g0<16)(d:BDoor)(hd:InD d)(lab s):den T 66 [u8 (g0:Nat), .agg [i64 d.a,i64 d.b,i64 d.cost]] lab s=some (u8 (movN g0 d),s):=by
 have hP:=fun lab s=>e_plN g0 hg0 lab s
 have hin:=pl_in g0 hg0
 have hln:=pl_len g0 hg0
 unfold movN
 generalize plN g0=l at*
 have key:=loop_fold (T:=T) (live:=[3,4,8,9,10]) (keep:=[48]) (b:=d66l0) l (fun _ (g:Nat)=>g<16) (fun g p=>orB g (shN (atN (thr d p))))
  (fun k g=>[(3, .ptr s.length 48 0),(4,u8 (g:Nat)),(8, .sl .no 1 (es cInt l)),(9,i64 l.length),(10,i64 (k:Nat))]) (fun _ _=>[(48, .cell [i64 d.a,i64 d.b,i64 d.cost])]::s)
  (fun g=>(.exit 0,[(3, .ptr s.length 48 0),(4,u8 (g:Nat)),(8, .sl .no 1 (es cInt l)),(9,i64 l.length),(10,i64 l.length),(11, .bool false)],[(48, .cell [i64 d.a,i64 d.b,i64 d.cost])]::s))
  (by simp) ?_ ?_ ?_ 0 (by omega) [(3, .ptr s.length 48 0),(4,u8 0),(8, .sl .no 1 (es cInt l)),(9,i64 l.length),(10,i64 0)] ([(48, .cell [i64 d.a,i64 d.b,i64 d.cost])]::s) (by simp) (by simp)
 ·change Run T b66l0 _ _=_ at key
  generalize l.foldl (fun g p=>orB g (shN (atN (thr d p)))) 0=r at*
  rw[den_fn t66 _ _ _ rfl]
  simp only[b66]
  simp (maxSteps:=1000000) (disch:=first|omega|assumption|decide +kernel|(simp;done)|(simp;omega)|fail) [hP,key]
 ·intro k g hk hg
  have hk2:(k:Int)<l.length:=by omega
  have h1:=thr_in hd (hin _ (List.getElem_mem hk))
  generalize hv:l[k]=p at*
  have hT:=fun lab s=>e_through d p lab s
  generalize thr d p=q at*
  have hO:=fun lab s=>e_of [q] (by simp) (by simpa using h1) lab s
  have e1:ofN [q]=shN (atN q):=by simp only[ofN,List.foldl_cons,List.foldl_nil,orB,Nat.zero_or]
  have e2:es cInt [q]=[[i64 q]]:=rfl
  rw[e1,e2]at hO
  have b2:=bor8 (a:=g) (b:=shN (atN q)) hg (sh8 _ (by unfold atN;omega))
  generalize shN (atN q)=x at*
  generalize orB g x=y at*
  simp (maxSteps:=1000000) (disch:=first|omega|assumption|decide +kernel|(simp;done)|(simp;omega)|fail) [hk,hk2,hv,hT,hO,b2,wk k (by omega),-bin_shl,-bin_or]
 ·intro k g hk hg
  have h1:=thr_in hd (hin _ (List.getElem_mem hk))
  exact or8 _ hg _ (sh8 _ (by unfold atN;omega))
 ·intro g hg
  simp
end Go.Proofs.YtmgkcipcjabigaaGreatDoor

/-
  TopLed: prices.
-/
namespace Go.Proofs.YtmgkcipcjabigaaGreatDoor
open Go.Ab
@[simp] def cU(n:Nat):List V:=[.int .u8 (n:Nat)]
@[simp] theorem map_cU(r:Ren)(l):(es cU l).map (V.mapAll r)=es cU l:=es_map _ _ (fun _=>by simp) _
@[simp] theorem strip_cU(l):(es cU l).map V.stripAll=es cU l:=es_strip _ (fun _=>by simp) _
@[simp] theorem refs_cU(own:Bool)(d:Nat)(l):(es cU l).flatMap (V.refsAll own d)=[]:=es_refs _ _ _ (fun _=>by simp) _
@[simp] theorem elems_cU(l):elemsOk (es cU l) 1=true:=elemsOk_es _ _ (fun _=>by simp) _
abbrev hV(b:BTrap)(dm lm:Nat):List V:=[i64 b.chambers, .sl .no 3 (es cDoorB b.doors), .sl .no 1 (es cInt b.seen),i64 b.look,i64 b.eats, .sl .no 1 (es cInt b.places), .bool true, .mp (.ptr dm lm 0)]
structure HuntAt(b:BTrap)(K:QM)(dh lh dm lm:Nat)(S:Stk):Prop where
 hlt:dh<S.length
 mlt:dm<S.length
 hun:sget S dh lh=some (.cell (hV b dm lm))
 map:sget S dm lm=some (.mq K)
theorem HuntAt.push {b K dh lh dm lm S}(h:HuntAt b K dh lh dm lm S)(F:Ab.Loc):HuntAt b K dh lh dm lm (F::S):=by
 have h1:=h.hlt
 have h2:=h.mlt
 refine⟨by simp;omega,by simp;omega,?_,?_⟩
 ·rw[sget_cons,if_neg (by omega)];exact h.hun
 ·rw[sget_cons,if_neg (by omega)];exact h.map
theorem e_less(p q:Int×Int)(lab s):den T 54 [.agg [i64 p.1,i64 p.2], .agg [i64 q.1,i64 q.2]] lab s=some (.bool (lessP p q),s):=by
 unfold lessP
 rw[den_fn t54 _ _ _ rfl]
 simp only[b54]
 by_cases h1:p.1<q.1
 ·simp (maxSteps:=1000000) (disch:=first|omega|assumption|decide +kernel|(simp;done)|(simp;omega)|fail) [h1]
 by_cases h2:p.1=q.1
 ·have h1': ¬q.1<q.1:=by omega
  simp (maxSteps:=1000000) (disch:=first|omega|assumption|decide +kernel|(simp;done)|(simp;omega)|fail) [h1',h2]
 ·simp (maxSteps:=1000000) (disch:=first|omega|assumption|decide +kernel|(simp;done)|(simp;omega)|fail) [h1,h2]
set_option maxHeartbeats 1000000 in
theorem e_hof {b:BTrap} {K:QM} {dh lh dm lm:Nat} {S:Stk}(h:HuntAt b K dh lh dm lm S)(s:Nat)(lab):den T 39 [.ptr dh lh 0,u8 (s:Nat)] lab S=some (.agg [i64 (ofQ K s).1,i64 (ofQ K s).2],S):=by
 have h1: ¬dh=S.length:=by have:=h.hlt;omega
 have h2: ¬dm=S.length:=by have:=h.mlt;omega
 have h3:=h.hun
 have h4:=h.map
 unfold ofQ
 cases e:qGet K s with
 |none=>
   rw[den_fn t39 _ _ _ rfl]
   simp only[b39]
   simp (maxSteps:=1000000) (disch:=first|omega|assumption|decide +kernel|(simp;done)|(simp;omega)|fail) [h1,h2,h3,h4,e,qVal,farP]
 |some p=>
   rw[den_fn t39 _ _ _ rfl]
   simp only[b39]
   simp (maxSteps:=1000000) (disch:=first|omega|assumption|decide +kernel|(simp;done)|(simp;omega)|fail) [h1,h2,h3,h4,e,qVal]
theorem e_costL(b:BTrap)(hl:0≤b.look∧b.look≤20)(he:1≤b.eats∧b.eats≤9)(c:Int)(lab s):den T 67 [.agg (bV b), .agg [i64 2,i64 c]] lab s=some (i64 (cosB b (2,c)),s):=by
 have w1:IntKind.i64.wrap (b.look+b.eats)=b.look+b.eats:=wi _ (by omega) (by omega)
 have e:cosB b (2,c)=b.look+b.eats:=rfl
 rw[e]
 rw[den_fn t67 _ _ _ rfl]
 simp only[b67]
 simp (maxSteps:=1000000) (disch:=first|omega|assumption|decide +kernel|(simp;done)|(simp;omega)|fail) [w1]
theorem e_costD(b:BTrap)(i:Nat)(hi:i<b.doors.length)(hc:0≤b.doors[i].cost∧b.doors[i].cost≤20)(he:1≤b.eats∧b.eats≤9)(lab s):den T 67 [.agg (bV b), .agg [i64 1,i64 (i:Nat)]] lab s=some (i64 (cosB b (1,(i:Nat))),s):=by
 have hi2:(i:Int)<b.doors.length:=by omega
 have e:cosB b (1,(i:Nat))=b.doors[i].cost+b.eats:=by simp[cosB,List.getD,hi]
 rw[e]
 generalize hG:b.doors[i]=G at*
 have w1:IntKind.i64.wrap (G.cost+b.eats)=G.cost+b.eats:=wi _ (by omega) (by omega)
 rw[den_fn t67 _ _ _ rfl]
 simp only[b67]
 simp (maxSteps:=1000000) (disch:=first|omega|assumption|decide +kernel|(simp;done)|(simp;omega)|fail) [run_drawnK,orSlow_none,hi,hi2,hG,w1]
abbrev wtF(x:Int×Int)(w:Int×Int):Ab.Loc:=[(64, .cell [i64 x.1,i64 x.2]),(96, .cell [i64 0,i64 0]),(112, .cell [i64 w.1,i64 w.2])]
abbrev wtE(d dh lh:Nat)(nx:List Nat)(k:Nat):Env:=[(0, .ptr dh lh 0),(4, .ptr d 64 0),(6, .ptr d 96 0),(7, .ptr d 112 0),(12, .sl .no 1 (es cU nx)),(13,i64 nx.length),(14,i64 (k:Nat))]
set_option maxHeartbeats 2000000 in
theorem e_with_l {b:BTrap} {K:QM} {dh lh dm lm:Nat} {S:Stk}(h:HuntAt b K dh lh dm lm S)(x:Int×Int)(nx:List Nat)(hn:nx.length≤40):
 Run T b53l0 (wtE S.length dh lh nx 0) (wtF x (-1,-1)::S)=some (.exit 0,wtE S.length dh lh nx nx.length ++[(15, .bool false)],wtF x (wrsN K nx)::S):=by
 have h1: ¬dh=S.length:=by have:=h.hlt;omega
 have key:=loop_fold (T:=T) (live:=[0,4,6,7,12,13,14]) (keep:=[64,96,112]) (b:=d53l0) nx (fun _ (_:Int×Int)=>True) (worse K)
  (fun k _=>wtE S.length dh lh nx k) (fun _ w=>wtF x w::S) (fun w=>(.exit 0,wtE S.length dh lh nx nx.length ++[(15, .bool false)],wtF x w::S)) (by simp) ?_ ?_ ?_ (-1,-1) trivial (wtE S.length dh lh nx 0) (wtF x (-1,-1)::S) (by simp[h1]) (by simp)
 ·exact key
 ·intro k w hk _
  have hk2:(k:Int)<nx.length:=by omega
  have hO:=fun F lab=>e_hof (h.push F) nx[k] lab
  have hL:=fun lab s=>e_less w (ofQ K nx[k]) lab s
  unfold worse
  generalize hv:nx[k]=v at*
  generalize ofQ K v=p at*
  cases hl:lessP w p
  ·rw[hl]at hL
   simp (maxSteps:=1000000) (disch:=first|omega|assumption|decide +kernel|(simp;done)|(simp;omega)|fail) [run_drawnK,orSlow_none,hk,hk2,hv,hO,hL,h1,wk k (by omega)]
  ·rw[hl]at hL
   simp (maxSteps:=1000000) (disch:=first|omega|assumption|decide +kernel|(simp;done)|(simp;omega)|fail) [run_drawnK,orSlow_none,hk,hk2,hv,hO,hL,h1,wk k (by omega)]
 ·intro _ _ _ _;trivial
 ·intro w _
  simp[h1]
set_option maxHeartbeats 2000000 in
theorem e_with {b:BTrap} {K:QM} {dh lh dm lm:Nat} {S:Stk}(h:HuntAt b K dh lh dm lm S)(hK:InvQ K)(x:Int×Int)(nx:List Nat)(hn:nx.length≤40)(hx:CosOk b (x,nx))(hC: ∀lab s,den T 67 [.agg (bV b), .agg [i64 x.1,i64 x.2]] lab s=some (i64 (cosB b x),s))(c:Cap)(lab):
 den T 53 [.ptr dh lh 0, .agg [i64 x.1,i64 x.2], .sl .no 1 (es cU nx)] lab S=some (.agg [i64 (witN b K x nx).1,i64 (witN b K x nx).2],S):=by
 have h1: ¬dh=S.length:=by have:=h.hlt;omega
 have h3:=h.hun
 have key:=e_with_l h x nx hn
 simp only[wtE,wtF,List.cons_append,List.nil_append,show((0:Nat):Int)=0 from rfl]at key
 have hw:=wrs_one hK hx.1
 have hb:=bnd_le K
 have hc:=hx.2
 dsimp only at hc
 unfold witN
 generalize wrsN K nx=w at*
 obtain⟨w1,w2⟩:=w
 by_cases hf:(w1,w2)=farP
 ·rw[if_pos hf]
  cases hf
  rw[den_fn t53 _ _ _ rfl]
  simp only[b53]
  simp (maxSteps:=1000000) (disch:=first|omega|assumption|decide +kernel|(simp;done)|(simp;omega)|fail) [run_drawnK,orSlow_none,key,h1,eqCells,farP]
 ·rw[if_neg hf]
  have hw:=hw.resolve_left hf
  dsimp only at hw
  have e1: ¬w1=1073741824:=by omega
  have q1:IntKind.i64.wrap (cosB b x+w1)=cosB b x+w1:=wi _ (by omega) (by omega)
  have q2:IntKind.i64.wrap (w2+1)=w2+1:=wi _ (by omega) (by omega)
  rw[den_fn t53 _ _ _ rfl]
  simp only[b53]
  simp (maxSteps:=1000000) (disch:=first|omega|assumption|decide +kernel|(simp;done)|(simp;omega)|fail) [run_drawnK,orSlow_none,key,h1,h3,eqCells,e1,hC,q1,q2]
end Go.Proofs.YtmgkcipcjabigaaGreatDoor

/-
  TopLed: the steps of a belief, yielded.
-/
namespace Go.Proofs.YtmgkcipcjabigaaGreatDoor
open Go.Ab
theorem e_steps(d l:Nat)(s:Nat)(lab:Nat)(F:Ab.Loc)(S:Stk)(h1:F.get lab=none)(h2:F.get (lab+1000)=none)(hd:d≤S.length):den T 52 [.ptr d l 0,u8 (s:Nat)] lab (F::S)=
 some (.fn 65 [] [.ptr S.length lab 0, .ptr S.length (lab+1000) 0],(F.put lab (.cell [.ptr d l 0])).put (lab+1000) (.cell [u8 (s:Nat)])::S):=by
 have hd2: ¬d=S.length+1:=by omega
 rw[den_fn t52 _ _ _ rfl]
 simp only[b52]
 simp (maxSteps:=1000000) (disch:=first|omega|assumption|decide +kernel|(simp;done)|(simp;omega)|fail) [h1,h2,hd2,dedup,newLab,idxOf]
structure Small(b:BTrap):Prop where
 ok:BeastOk b
 c3:b.chambers≤3
theorem Small.door {b:BTrap}(h:Small b) {i:Nat}(hi:i<b.doors.length):InD b.doors[i]∧0≤b.doors[i].cost∧b.doors[i].cost≤20∧b.doors[i].a≠b.doors[i].b:=by
 have h3:=h.c3
 have:=h.ok.door
 simp only[allB,List.all_eq_true]at this
 have:=this _ (List.getElem_mem hi)
 simp only[bdoB,Bool.and_eq_true,Bool.or_eq_true,wiB_iff,decide_eq_true_eq,Bool.not_eq_true',decide_eq_false_iff_not]at this
 exact⟨⟨by omega,by omega⟩,by omega,by omega,this.2.2.1⟩
theorem Small.look {b:BTrap}(h:Small b) {c:Int}(hc:c∈b.seen):0≤c∧c≤2:=by
 have h3:=h.c3
 obtain⟨k,hk,rfl⟩:=List.getElem_of_mem hc
 have:=rising_mem h.ok.seen hk
 omega
theorem fold_look {σ:Type}(Y:σ→BStep→σ)(s:Nat): ∀(l:List Int) (a:σ),l.foldl (fun a c=>if lookB s c=true then Y a (lookS s c)else a) a=((l.filter (lookB s)).map (lookS s)).foldl Y a
 |[],a=>rfl
 |c::l,a=>by
   rw[List.foldl_cons,fold_look Y s l]
   cases h:lookB s c<;>simp[h]
section
variable {b : BTrap} {s : Nat} {σ : Type} {p1 p2 lh lm l : Nat} {Sf : Stk} {Lf : σ → Ab.Loc} {Y : σ → BStep → σ} {I : σ → Prop}
abbrev st0E(D l p1 p2:Nat)(b:BTrap)(k:Nat):Env:=[(0, .yld D l),(1, .ptr D p1 0),(2, .ptr D p2 0),(13, .sl .no 3 (es cDoorB b.doors)),(14,i64 b.doors.length),(15,i64 (k:Nat))]
set_option maxHeartbeats 4000000 in
theorem steps_l0(hb:Small b)(hs:s<16)(h2: ∀a,Loc.get (Lf a) p2=some (.cell [u8 (s:Nat)]))
 (hy: ∀a x F,x∈stpN b s→I a→(∀lab,denV T (.yld Sf.length l) [.agg [i64 x.1.1,i64 x.1.2], .sl .no 1 (es cU x.2)] lab (F::Lf a::Sf)=some (.bool true,F::Lf (Y a x)::Sf))∧I (Y a x)) (a:σ) (ha:I a):
 Run T b65l0 (st0E Sf.length l p1 p2 b 0) ([]::Lf a::Sf)=some (.exit 0,st0E Sf.length l p1 p2 b b.doors.length ++[(16, .bool false)],[]::Lf ((b.doors.zipIdx.map (doorS s)).foldl Y a)::Sf)∧I ((b.doors.zipIdx.map (doorS s)).foldl Y a):=by
 have hdl:=hb.ok.dl
 rw[List.foldl_map]
 have hfold: ∀(L:List (BDoor×Nat)) a,(∀x∈L,doorS s x∈stpN b s)→I a→I (L.foldl (fun a x=>Y a (doorS s x)) a):=by
  intro L
  induction L with
  |nil=>intro a _ h;exact h
  |cons x L ih=>intro a hm h;exact ih _ (fun y hy=>hm y (by simp[hy])) (hy a _ [] (hm x (by simp)) h).2
 have hmem: ∀x∈b.doors.zipIdx,doorS s x∈stpN b s:=fun x hx=>List.mem_append_left _ (List.mem_map.2 ⟨x,hx,rfl⟩)
 refine⟨?_,hfold _ _ hmem ha⟩
 have key:=loop_fold (T:=T) (live:=[0,1,2,13,14,15]) (keep:=[]) (b:=d65l0) b.doors.zipIdx (fun _ a=>I a) (fun a x=>Y a (doorS s x))
  (fun k _=>st0E Sf.length l p1 p2 b k) (fun _ a=>[]::Lf a::Sf) (fun a=>(.exit 0,st0E Sf.length l p1 p2 b b.doors.length ++[(16, .bool false)],[]::Lf a::Sf)) (by simp) ?_ ?_ ?_ a ha (st0E Sf.length l p1 p2 b 0) ([]::Lf a::Sf) (by simp) (by simp)
 ·exact key
 ·intro k a hk hi
  simp only[List.length_zipIdx]at hk
  have hk2:(k:Int)<b.doors.length:=by omega
  have hel:b.doors.zipIdx[k]'(by simpa using hk)=(b.doors[k],k):=by simp
  rw[hel]
  have hm:=hmem (b.doors[k],k) (by rw[←hel];exact List.getElem_mem _)
  have hyk:=fun F lab=>(hy a _ F hm hi).1 lab
  have hg2:=h2 a
  obtain⟨hin,_⟩:=hb.door hk
  have hM:=fun lab S=>e_move s hs b.doors[k] hin lab S
  simp only[doorS,es,List.map_cons,List.map_nil,cU]at hyk⊢
  generalize hG:b.doors[k]=G at*
  generalize movN s G=n at*
  generalize Y a ((1,(k:Int)),[n])=a' at*
  simp (maxSteps:=1000000) (disch:=first|omega|assumption|decide +kernel|(simp;done)|(simp;omega)|fail) [run_drawnK,orSlow_none,hk,hk2,hG,hM,hg2,hyk,wk k (by omega)]
 ·intro k a hk hi
  simp only[List.length_zipIdx]at hk
  exact(hy a _ [] (hmem _ (List.getElem_mem _)) hi).2
 ·intro a hi
  simp
abbrev st1E(D l p1 p2:Nat)(b:BTrap)(k:Nat):Env:=[(0, .yld D l),(1, .ptr D p1 0),(2, .ptr D p2 0),(34, .sl .no 1 (es cInt b.seen)),(35,i64 b.seen.length),(36,i64 (k:Nat))]
set_option maxHeartbeats 4000000 in
theorem steps_l1(hb:Small b)(hs:s<16)(h1: ∀a,Loc.get (Lf a) p1=some (.cell [.ptr Sf.length lh 0]))(h2: ∀a,Loc.get (Lf a) p2=some (.cell [u8 (s:Nat)]))(h3: ∀a,Loc.get (Lf a) lh=some (.cell (hV b Sf.length lm)))
 (hy: ∀a x F,x∈stpN b s→I a→(∀lab,denV T (.yld Sf.length l) [.agg [i64 x.1.1,i64 x.1.2], .sl .no 1 (es cU x.2)] lab (F::Lf a::Sf)=some (.bool true,F::Lf (Y a x)::Sf))∧I (Y a x)) (a:σ) (ha:I a):
 Run T b65l1 (st1E Sf.length l p1 p2 b 0) ([]::Lf a::Sf)=some (.exit 2,st1E Sf.length l p1 p2 b b.seen.length ++[(37, .bool false)],[]::Lf (((b.seen.filter (lookB s)).map (lookS s)).foldl Y a)::Sf)∧I (((b.seen.filter (lookB s)).map (lookS s)).foldl Y a):=by
 have hch:=hb.ok.ch
 have hsl:=len_rise hb.ok.seen (by omega)
 rw[←fold_look]
 have hmem: ∀c∈b.seen,lookB s c=true→lookS s c∈stpN b s:=fun c hc hl=>List.mem_append_right _ (List.mem_map.2 ⟨c,List.mem_filter.2 ⟨hc,hl⟩,rfl⟩)
 have hstep: ∀a c,c∈b.seen→I a→I (if lookB s c=true then Y a (lookS s c)else a):=fun a c hc hi=>by
  split
  ·rename_i h;exact(hy a _ [] (hmem c hc h) hi).2
  ·exact hi
 have hfold: ∀(L:List Int) a,(∀c∈L,c∈b.seen)→I a→I (L.foldl (fun a c=>if lookB s c=true then Y a (lookS s c)else a) a):=by
  intro L
  induction L with
  |nil=>intro a _ h;exact h
  |cons x L ih=>intro a hm h;exact ih _ (fun y hy=>hm y (by simp[hy])) (hstep a x (hm x (by simp)) h)
 refine⟨?_,hfold _ _ (fun _ h=>h) ha⟩
 have key:=loop_fold (T:=T) (live:=[0,1,2,34,35,36]) (keep:=[]) (b:=d65l1) b.seen (fun _ a=>I a) (fun a c=>if lookB s c=true then Y a (lookS s c)else a)
  (fun k _=>st1E Sf.length l p1 p2 b k) (fun _ a=>[]::Lf a::Sf) (fun a=>(.exit 2,st1E Sf.length l p1 p2 b b.seen.length ++[(37, .bool false)],[]::Lf a::Sf)) (by simp) ?_ ?_ ?_ a ha (st1E Sf.length l p1 p2 b 0) ([]::Lf a::Sf) (by simp) (by simp)
 ·exact key
 ·intro k a hk hi
  have hk2:(k:Int)<b.seen.length:=by omega
  have hc:=List.getElem_mem hk
  have hcr:=hb.look hc
  have hm:=hmem _ hc
  have hg1:=h1 a
  have hg2:=h2 a
  have hg3:=h3 a
  generalize hv:b.seen[k]=c at*
  have hO:=fun lab S=>e_of [c] (by simp) (by simp;omega) lab S
  have e1:ofN [c]=shN (atN c):=by simp only[ofN,List.foldl_cons,List.foldl_nil,orB,Nat.zero_or]
  have e2:es cInt [c]=[[i64 c]]:=rfl
  rw[e1,e2]at hO
  have hsh:shN (atN c)<16:=sh8 _ (by unfold atN;omega)
  have b1:=band8 (a:=s) (b:=shN (atN c)) hs hsh
  have hal:=an8 s hs _ hsh
  have b2:=bno8 (a:=s) (b:=anB s (shN (atN c))) hs hal
  have hyk:=fun h F lab=>(hy a (lookS s c) F (hm h) hi).1 lab
  unfold lookB at hyk⊢
  simp only[lookS,es,List.map_cons,List.map_nil,cU]at hyk⊢
  generalize shN (atN c)=x at*
  generalize anB s x=y at*
  generalize noB s y=z at*
  by_cases c1:y=0
  ·have c1':((y:Nat):Int)=0:=by omega
   simp (maxSteps:=1000000) (disch:=first|omega|assumption|decide +kernel|(simp;done)|(simp;omega)|fail) [run_drawnK,orSlow_none,hk,hk2,hv,hO,b1,hg1,hg2,hg3,c1,c1',wk k (by omega),-bin_and,-bin_andNot]
  have c1': ¬((y:Nat):Int)=0:=by omega
  by_cases c2:y=s
  ·have c3: ¬s=0:=by omega
   have c3': ¬((s:Nat):Int)=0:=by omega
   simp (maxSteps:=1000000) (disch:=first|omega|assumption|decide +kernel|(simp;done)|(simp;omega)|fail) [run_drawnK,orSlow_none,hk,hk2,hv,hO,b1,hg1,hg2,hg3,c3,c3',c2,wk k (by omega),-bin_and,-bin_andNot]
  have c2': ¬((y:Nat):Int)=s:=by omega
  have hyk:=hyk (by simp[c1,c2])
  simp only[c1,c2,not_false_eq_true,decide_true,Bool.and_self,if_true]
  generalize Y a ((2,c),[y,z])=a' at*
  simp (maxSteps:=1000000) (disch:=first|omega|assumption|decide +kernel|(simp;done)|(simp;omega)|fail) [run_drawnK,orSlow_none,hk,hk2,hv,hO,b1,b2,hg1,hg2,hg3,c1,c1',c2,c2',hyk,wk k (by omega),-bin_and,-bin_andNot]
 ·intro k a hk hi
  exact hstep a _ (List.getElem_mem hk) hi
 ·intro a hi
  simp
set_option maxHeartbeats 2000000 in
theorem e_steps1(hb:Small b)(hs:s<16)(h1: ∀a,Loc.get (Lf a) p1=some (.cell [.ptr Sf.length lh 0]))(h2: ∀a,Loc.get (Lf a) p2=some (.cell [u8 (s:Nat)]))(h3: ∀a,Loc.get (Lf a) lh=some (.cell (hV b Sf.length lm)))
 (hy: ∀a x F,x∈stpN b s→I a→(∀lab,denV T (.yld Sf.length l) [.agg [i64 x.1.1,i64 x.1.2], .sl .no 1 (es cU x.2)] lab (F::Lf a::Sf)=some (.bool true,F::Lf (Y a x)::Sf))∧I (Y a x)) (a:σ) (ha:I a) (lab:Nat):
 den T 65 [.yld Sf.length l, .ptr Sf.length p1 0, .ptr Sf.length p2 0] lab (Lf a::Sf)=some (.tup [],Lf ((stpN b s).foldl Y a)::Sf):=by
 obtain⟨k1,i1⟩:=steps_l0 (p1:=p1) hb hs h2 hy a ha
 obtain⟨k2,_⟩:=steps_l1 hb hs h1 h2 h3 hy _ i1
 rw[←List.foldl_append]at k2
 change Run T _ _ _=some (Ex.exit 2,_,[]::Lf ((stpN b s).foldl Y a)::Sf)at k2
 have g1:=h1 a
 have g3:=h3 a
 have g1':=h1 ((b.doors.zipIdx.map (doorS s)).foldl Y a)
 have g3':=h3 ((b.doors.zipIdx.map (doorS s)).foldl Y a)
 simp only[st0E,st1E,List.cons_append,List.nil_append,show((0:Nat):Int)=0 from rfl]at k1 k2
 generalize (b.doors.zipIdx.map (doorS s)).foldl Y a=a1 at*
 generalize (stpN b s).foldl Y a=a2 at*
 rw[den_fn t65 _ _ _ rfl]
 simp only[b65]
 simp (maxSteps:=1000000) (disch:=first|omega|assumption|decide +kernel|(simp;done)|(simp;omega)|fail) [g1,g3,g1',g3',k1,k2]
end
end Go.Proofs.YtmgkcipcjabigaaGreatDoor

/-
  TopLed: one step of start.
-/
namespace Go.Proofs.YtmgkcipcjabigaaGreatDoor
open Go.Ab
def staL(D:Nat)(b:BTrap)(a:QM×Bool)(s:Nat)(e:Entry):Ab.Loc:=
 [(32, .cell (bV b)),(208, .mq a.1),(272, .cell (hV b D 208)),(80, .cell [.ptr D 272 0]),(96, .cell [.bool a.2]),(112, .cell [u8 (s:Nat)]),(464, .cell [.ptr D 272 0]),(1464, .cell [u8 (s:Nat)]),(9735,e)]
abbrev staE(D:Nat):Env:=[(2, .ptr D 32 0),(5, .ptr D 80 0),(6, .ptr D 96 0),(7, .ptr D 112 0)]
def staLp(D:Nat)(x:LoopState)(y:Option Ex):Entry:= .loop [30,31] b38l2 b38l3 (staE D ++[(29, .fn 65 [] [.ptr D 464 0, .ptr D 1464 0])]) x y
theorem huntSta(Sf:Stk)(b:BTrap)(a:QM×Bool)(s:Nat)(e:Entry):HuntAt b a.1 Sf.length 272 Sf.length 208 (staL Sf.length b a s e::Sf) where
 hlt:=by simp
 mlt:=by simp
 hun:=by rw[sget_cons,if_pos rfl];rfl
 map:=by rw[sget_cons,if_pos rfl];rfl
theorem Small.cos {b:BTrap}(h:Small b):CosAll b:=fun s x hx=>by
 have hl:=h.ok.look
 have he:=h.ok.eats
 rcases List.mem_append.1 hx with hx|hx
 ·obtain⟨⟨d,i⟩,hm,rfl⟩:=List.mem_map.1 hx
  obtain⟨k,hk,e⟩:=List.getElem_of_mem hm
  simp only[List.length_zipIdx]at hk
  simp only[List.getElem_zipIdx,Nat.zero_add,Prod.mk.injEq]at e
  obtain⟨rfl,rfl⟩:=e
  have hd:=h.door hk
  have e:cosB b (doorS s (b.doors[k],k)).1=b.doors[k].cost+b.eats:=by simp[cosB,doorS,List.getD,hk]
  refine⟨by simp[doorS],?_,?_⟩<;>rw[e]<;>omega
 ·obtain⟨c,hm,rfl⟩:=List.mem_map.1 hx
  have e:cosB b (lookS s c).1=b.look+b.eats:=rfl
  refine⟨by simp[lookS],?_,?_⟩<;>rw[e]<;>omega
theorem Small.cost {b:BTrap}(h:Small b) {s:Nat} {x:BStep}(hx:x∈stpN b s)(lab S):den T 67 [.agg (bV b), .agg [i64 x.1.1,i64 x.1.2]] lab S=some (i64 (cosB b x.1),S):=by
 rcases List.mem_append.1 hx with hx|hx
 ·obtain⟨⟨d,i⟩,hm,rfl⟩:=List.mem_map.1 hx
  obtain⟨k,hk,e⟩:=List.getElem_of_mem hm
  simp only[List.length_zipIdx]at hk
  simp only[List.getElem_zipIdx,Nat.zero_add,Prod.mk.injEq]at e
  obtain⟨rfl,rfl⟩:=e
  have hd:=h.door hk
  exact e_costD b k hk ⟨hd.2.1,hd.2.2.1⟩ h.ok.eats lab S
 ·obtain⟨c,hm,rfl⟩:=List.mem_map.1 hx
  exact e_costL b h.ok.look h.ok.eats c lab S
theorem stp_len {b:BTrap} {s:Nat} {x:BStep}(hx:x∈stpN b s):x.2.length≤2:=by
 rcases List.mem_append.1 hx with hx|hx
 ·obtain⟨_,_,rfl⟩:=List.mem_map.1 hx;simp[doorS]
 ·obtain⟨_,_,rfl⟩:=List.mem_map.1 hx;simp[lookS]
set_option maxHeartbeats 4000000 in
theorem sta_round {b:BTrap}(hb:Small b)(s:Nat)(a:QM×Bool)(hK:InvQ a.1)(x:BStep)(hx:x∈stpN b s)(F:Ab.Loc)(Sf:Stk)(en:Entry):
 ∃e2 fr2,Run T b38l3 (staE Sf.length ++[(8, .ptr (Sf.length+1+1) 128 0),(9, .sl .no 1 (es cU x.2))]) ([(128, .cell [i64 x.1.1,i64 x.1.2])]::F::staL Sf.length b a s en::Sf)=some (.normal,e2,fr2::F::staL Sf.length b (updN b s a x) s en::Sf):=by
 have hd: ¬Sf.length=Sf.length+1+1:=by omega
 have hd1: ¬Sf.length=Sf.length+1:=by omega
 have hH:=huntSta Sf b a s en
 have hW:=fun G lab=>e_with ((hH.push F).push G) hK x.1 x.2 (by have:=stp_len hx;omega) (hb.cos s x hx) (fun lab S=>hb.cost hx lab S) .no lab
 have hO:=fun G lab=>e_hof ((hH.push F).push G) s lab
 have hL:=fun lab S=>e_less (witN b a.1 x.1 x.2) (ofQ a.1 s) lab S
 unfold updN
 generalize witN b a.1 x.1 x.2=p at*
 generalize ofQ a.1 s=q at*
 obtain⟨K,bt⟩:=a
 simp only[staL]at hW hO⊢
 cases hl:lessP p q
 ·rw[hl]at hL
  refine⟨staE Sf.length ++[(10, .ptr (Sf.length+1+1) 160 0),(40, .bool false)],[(128, .cell [i64 x.1.1,i64 x.1.2]),(160, .cell [i64 p.1,i64 p.2])],?_⟩
  simp only[b38l3,Bool.false_eq_true,if_false]
  simp (maxSteps:=1000000) (disch:=first|omega|assumption|decide +kernel|(simp;done)|(simp;omega)|fail) [run_drawnK,orSlow_none,hd,hd1,hW,hO,hL]
 ·rw[hl]at hL
  refine⟨staE Sf.length,[(128, .cell [i64 x.1.1,i64 x.1.2]),(160, .cell [i64 p.1,i64 p.2])],?_⟩
  simp only[b38l3,if_true]
  simp (maxSteps:=1000000) (disch:=first|omega|assumption|decide +kernel|(simp;done)|(simp;omega)|fail) [run_drawnK,orSlow_none,hd,hd1,hW,hO,hL]
end Go.Proofs.YtmgkcipcjabigaaGreatDoor

/-
  TopLed: start.
-/
namespace Go.Proofs.YtmgkcipcjabigaaGreatDoor
open Go.Ab
set_option maxHeartbeats 1000000 in
theorem sta_yield {b:BTrap}(hb:Small b)(s:Nat)(a:QM×Bool)(hK:InvQ a.1)(x:BStep)(hx:x∈stpN b s)(F:Ab.Loc)(Sf:Stk)(lab:Nat):
 denV T (.yld Sf.length 9735) [.agg [i64 x.1.1,i64 x.1.2], .sl .no 1 (es cU x.2)] lab (F::staL Sf.length b a s (staLp Sf.length .ready none)::Sf)=some (.bool true,F::staL Sf.length b (updN b s a x) s (staLp Sf.length .ready none)::Sf):=by
 have top: ∀(a:QM×Bool) (en:Entry),sget (F::staL Sf.length b a s en::Sf) Sf.length 9735=some en:=fun a en=>by
  rw[sget_cons,if_neg (by simp only[List.length_cons];omega),sget_cons,if_pos rfl];rfl
 have put: ∀(a:QM×Bool) (en en':Entry),sput (F::staL Sf.length b a s en::Sf) Sf.length 9735 en'=F::staL Sf.length b a s en'::Sf:=fun a en en'=>by
  rw[sput_cons,if_neg (by simp only[List.length_cons];omega),sput_cons,if_pos rfl];rfl
 obtain⟨e2,fr2,hB⟩:=sta_round hb s a hK x hx F Sf (staLp Sf.length .busy none)
 have hA:Run T b38l2 (bindEnv [30,31] [.agg [i64 x.1.1,i64 x.1.2], .sl .no 1 (es cU x.2)] (staE Sf.length ++[(29, .fn 65 [] [.ptr Sf.length 464 0, .ptr Sf.length 1464 0])])) ([]::F::staL Sf.length b a s (staLp Sf.length .ready none)::Sf)=
  some (.normal,staE Sf.length ++[(8, .ptr (Sf.length+1+1) 128 0),(9, .sl .no 1 (es cU x.2))],[(128, .cell [i64 x.1.1,i64 x.1.2])]::F::staL Sf.length b a s (staLp Sf.length .ready none)::Sf):=by
  generalize staL Sf.length b a s (staLp Sf.length .ready none)=L
  simp[b38l2,bindEnv]
 have:=yld_run (T:=T) (d:=Sf.length) (l:=9735) (args:=[.agg [i64 x.1.1,i64 x.1.2], .sl .no 1 (es cU x.2)]) (lab:=lab) (ps:=[30,31]) (A:=b38l2) (B:=b38l3) (env:=staE Sf.length ++[(29, .fn 65 [] [.ptr Sf.length 464 0, .ptr Sf.length 1464 0])]) (ex:= .normal) (st:= .busy) (p:=none)
  (s:=F::staL Sf.length b a s (staLp Sf.length .ready none)::Sf) (s3:=F::staL Sf.length b (updN b s a x) s (staLp Sf.length .busy none)::Sf) (top _ _) rfl hA (by simp only[List.length_cons];omega) (e2:=e2) (fr2:=fr2) (by rw[put];exact hB) (top _ _)
 rw[this,put]
 rfl
theorem sta_steps {b:BTrap}(hb:Small b)(s:Nat)(hs:s<16)(a:QM×Bool)(hK:InvQ a.1)(Sf:Stk)(lab:Nat):
 den T 65 [.yld Sf.length 9735, .ptr Sf.length 464 0, .ptr Sf.length 1464 0] lab (staL Sf.length b a s (staLp Sf.length .ready none)::Sf)=some (.tup [],staL Sf.length b (rndS b a s) s (staLp Sf.length .ready none)::Sf):=
 e_steps1 (Sf:=Sf) (Lf:=fun a=>staL Sf.length b a s (staLp Sf.length .ready none)) (lm:=208) (Y:=updN b s) (I:=fun a=>InvQ a.1) hb hs (fun a=>rfl) (fun a=>rfl) (fun a=>rfl) (fun a x F hx hi=>⟨fun lab=>sta_yield hb s a hi x hx F Sf lab,(upd_inv hs hi (hb.cos s x hx)).1⟩) a hK lab
abbrev stbF(D:Nat)(b:BTrap)(a:QM×Bool)(s:Nat):Ab.Loc:=[(32, .cell (bV b)),(208, .mq a.1),(272, .cell (hV b D 208)),(80, .cell [.ptr D 272 0]),(96, .cell [.bool a.2]),(112, .cell [u8 (s:Nat)])]
set_option maxHeartbeats 4000000 in
theorem sta_l1 {b:BTrap}(hb:Small b)(a:QM×Bool)(hK:InvQ a.1)(Sf:Stk):
 Run T b38l1 (staE Sf.length) (stbF Sf.length b a 1::Sf)=some (.exit 2,staE Sf.length ++[(24, .bool false)],stbF Sf.length b ((List.range' 1 (2^(b.chambers.toNat+1)-1)).foldl (rndS b) a) (2^(b.chambers.toNat+1))::Sf):=by
 have h3:=hb.c3
 have hch:=hb.ok.ch
 obtain⟨c,hc⟩: ∃c:Nat,b.chambers=c:=⟨b.chambers.toNat,by omega⟩
 have hc2:b.chambers.toNat=c:=by omega
 have hcc:c≤3:=by omega
 have hp0:0<2^(c+1):=Nat.pow_pos (by decide)
 have hp16:2^(c+1)≤16:=by
  have:2^(c+1)≤2^4:=Nat.pow_le_pow_right (by decide) (by omega)
  omega
 have hsh:shN (c+1)=2^(c+1):=by unfold shN;rw[Nat.shiftLeft_eq,Nat.one_mul]
 have b1:=bsh8 (n:=c+1) (by omega)
 have w1:IntKind.i64.wrap (b.chambers+1)=((c+1:Nat):Int):=by rw[hc];rw[wi _ (by omega) (by omega)];rfl
 rw[hc2]
 rw[hsh]at b1
 obtain⟨N,hN⟩: ∃N,2^(c+1)=N:=⟨_,rfl⟩
 rw[hN]at b1 hp0 hp16⊢
 obtain⟨c1,hc1⟩: ∃c1,c+1=c1:=⟨_,rfl⟩
 rw[hc1]at b1 w1
 have key:=loop_fold (T:=T) (live:=[2,5,6,7]) (keep:=[32,80,96,112,208,272]) (b:=d38l1) (List.range' 1 (N-1)) (fun _ (a:QM×Bool)=>InvQ a.1) (rndS b)
  (fun _ _=>staE Sf.length) (fun k a=>stbF Sf.length b a (k+1)::Sf) (fun a=>(.exit 2,staE Sf.length ++[(24, .bool false)],stbF Sf.length b a N::Sf)) (by simp) ?_ ?_ ?_ a hK (staE Sf.length) (stbF Sf.length b a 1::Sf) (by simp) (by simp)
 ·exact key
 ·intro k a hk hi
  simp only[List.length_range']at hk
  rw[List.getElem_range',Nat.one_mul,Nat.add_comm 1 k]
  have hlt:((k+1:Nat):Int)<N:=by omega
  have hS:=fun lab=>sta_steps hb (k+1) (by omega) a hi Sf lab
  have hE:=fun lab (F:Ab.Loc) g1 g2=>e_steps Sf.length 272 (k+1) lab F Sf g1 g2 (Nat.le_refl _)
  have w2:IntKind.u8.wrap (((k+1:Nat):Int)+1)=((k+1+1:Nat):Int):=by
   have: ∀m,m<17→IntKind.u8.wrap (((m:Nat):Int)+1)=((m+1:Nat):Int):=by decide +kernel
   exact this (k+1) (by omega)
  generalize rndS b a (k+1)=a' at*
  generalize k+1=m at*
  simp only[staL,staLp,staE,List.cons_append,List.nil_append]at hS
  simp (maxSteps:=6000000) (disch:=first|omega|assumption|decide +kernel|(simp;done)|(simp;omega)|fail) [run_drawnK,orSlow_none,w1,b1,hlt,hE,hS,w2,-bin_shl]
 ·intro k a hk hi
  simp only[List.length_range']at hk
  rw[List.getElem_range',Nat.one_mul]
  exact(fold_inv (by omega:1+k<16) (stpN b (1+k)) hi (hb.cos _)).1
 ·intro a hi
  have e:N-1+1=N:=by omega
  simp only[List.length_range',e]
  simp (maxSteps:=6000000) (disch:=first|omega|assumption|decide +kernel|(simp;done)|(simp;omega)|fail) [run_drawnK,orSlow_none,w1,b1,-bin_shl]
end Go.Proofs.YtmgkcipcjabigaaGreatDoor

/-
  TopLed: start, whole.
-/
namespace Go.Proofs.YtmgkcipcjabigaaGreatDoor
open Go.Ab
abbrev stcF(D:Nat)(b:BTrap)(a:QM×Bool):Ab.Loc:=[(32, .cell (bV b)),(208, .mq a.1),(272, .cell (hV b D 208)),(80, .cell [.ptr D 272 0]),(96, .cell [.bool a.2])]
abbrev stcE(D:Nat):Env:=[(2, .ptr D 32 0),(5, .ptr D 80 0),(6, .ptr D 96 0)]
set_option maxHeartbeats 4000000 in
theorem sta_l0 {b:BTrap}(hb:Small b) {n:Nat}(h1: ∀k,k≤n→(stN b k).2=true)(h2:(stN b (n+1)).2=false)(Sf:Stk):
 Run T b38l0 (stcE Sf.length) (stcF Sf.length b (stN b 0)::Sf)=some (.exit 0,stcE Sf.length ++[(18, .bool false)],stcF Sf.length b (stN b (n+1))::Sf):=by
 have hc:=hb.cos
 have h3:=hb.c3
 have key:=loop_fold (T:=T) (live:=[2,5,6]) (keep:=[32,80,96,208,272]) (b:=d38l0) (List.range (n+1)) (fun k (a:QM×Bool)=>a=stN b k) (fun a _=>rndN b a.1)
  (fun _ _=>stcE Sf.length) (fun _ a=>stcF Sf.length b a::Sf) (fun a=>(.exit 0,stcE Sf.length ++[(18, .bool false)],stcF Sf.length b a::Sf)) (by simp) ?_ ?_ ?_ (stN b 0) rfl (stcE Sf.length) (stcF Sf.length b (stN b 0)::Sf) (by simp) (by simp)
 ·have e: ∀m,(List.range m).foldl (fun(a:QM×Bool) _=>rndN b a.1) (stN b 0)=stN b m:=by
   intro m
   induction m with
   |zero=>rfl
   |succ m ih=>rw[List.range_succ,List.foldl_append,ih];rfl
  rw[e]at key
  exact key
 ·intro k a hk hi
  simp only[List.length_range]at hk
  subst hi
  have hb1:=h1 k (by omega)
  have hl:=sta_l1 hb ((stN b k).1,false) (st_inv hc h3 k) Sf
  simp only[stbF,staE,List.cons_append,List.nil_append,show((1:Nat):Int)=1 from rfl]at hl
  unfold rndN
  generalize (List.range' 1 (2^(b.chambers.toNat+1)-1)).foldl (rndS b) ((stN b k).1,false)=a' at*
  generalize 2^(b.chambers.toNat+1)=N at*
  generalize stN b k=a at*
  obtain⟨K,bt⟩:=a
  simp only at hb1 hl⊢
  subst hb1
  simp (maxSteps:=6000000) (disch:=first|omega|assumption|decide +kernel|(simp;done)|(simp;omega)|fail) [run_drawnK,orSlow_none,hl]
 ·intro k a hk hi
  rw[hi];rfl
 ·intro a hi
  simp only[List.length_range]at hi
  subst hi
  generalize stN b (n+1)=a at*
  obtain⟨K,bt⟩:=a
  simp only at h2
  subst h2
  simp (maxSteps:=6000000) (disch:=first|omega|assumption|decide +kernel|(simp;done)|(simp;omega)|fail) [run_drawnK,orSlow_none]
set_option maxHeartbeats 4000000 in
theorem e_start {b:BTrap}(hb:Small b) {n:Nat}(h1: ∀k,k≤n→(stN b k).2=true)(h2:(stN b (n+1)).2=false)(F:Ab.Loc)(Sf:Stk)(lab:Nat)(k0:F.get lab=none)(k1:F.get (lab+1000)=none):
 den T 38 [.agg (bV b), .bool true] lab (F::Sf)=some (.ptr Sf.length lab 0,(F.put lab (.cell (hV b Sf.length (lab+1000)))).put (lab+1000) (.mq (stN b (n+1)).1)::Sf):=by
 have key:=sta_l0 hb h1 h2 (F::Sf)
 have e0:stN b 0=([(1,0,0)],true):=rfl
 rw[e0]at key
 simp only[stcE,stcF,hV,bV,List.cons_append,List.nil_append,List.length_cons]at key
 generalize stN b (n+1)=a at*
 obtain⟨K,bt⟩:=a
 simp only at h2 key⊢
 subst h2
 have q:qPut [] 1 (0,0)=[(1,0,0)]:=rfl
 rw[den_fn t38 _ _ _ rfl]
 simp only[b38]
 simp (maxSteps:=6000000) (disch:=first|omega|assumption|decide +kernel|(simp;done)|(simp;omega)|fail) [run_drawnK,orSlow_none,key,q,k0,k1,dedup,newLab,idxOf]
end Go.Proofs.YtmgkcipcjabigaaGreatDoor

/-
  TopLed: what the way out of a chamber costs, where each step costs 1: plain law.
-/
namespace Go.Proofs.YtmgkcipcjabigaaGreatDoor
open Go.Ab
def rB(b:BTrap):Nat→Int→Bool
 |0,c=>decide (c= -1)
 |k+1,c=>rB b k c||b.doors.any fun d=>rB b k (thr d c)
abbrev pn(c:Int):Nat:=shN (atN c)
theorem pn_pl {c:Int}(h: -1≤c∧c≤2):plN (pn c)=[c]:=by
 obtain⟨m,hm⟩: ∃m:Nat,c+1=m:=⟨(c+1).toNat,by omega⟩
 have e:atN c=m:=by unfold atN;omega
 have key: ∀m,m<4→plN (shN m)=[(m:Int)-1]:=by decide +kernel
 rw[pn,e,key m (by omega)]
 congr 1;omega
theorem pn_mov {c:Int}(h: -1≤c∧c≤2)(d:BDoor):movN (pn c) d=pn (thr d c):=by
 unfold movN
 rw[pn_pl h]
 simp only[List.foldl_cons,List.foldl_nil,orB,Nat.zero_or,pn]
theorem pn_look {c x:Int}(h: -1≤c∧c≤2)(hx:0≤x∧x≤2):lookB (pn c) x=false:=by
 obtain⟨m,hm⟩: ∃m:Nat,c+1=m:=⟨(c+1).toNat,by omega⟩
 obtain⟨k,hk⟩: ∃m:Nat,x+1=m:=⟨(x+1).toNat,by omega⟩
 have e:atN c=m:=by unfold atN;omega
 have e2:atN x=k:=by unfold atN;omega
 have key: ∀m,m<4→ ∀k,k<4→(decide (¬anB (shN m) (shN k)=0)&&decide (¬anB (shN m) (shN k)=shN m))=false:=by decide +kernel
 unfold lookB pn
 rw[e,e2]
 exact key m (by omega) k (by omega)
theorem pn_inj {c x:Int}(h: -1≤c∧c≤2)(hx: -1≤x∧x≤2)(e:pn c=pn x):c=x:=by
 have h1:=pn_pl h
 have h2:=pn_pl hx
 rw[e,h2]at h1
 simpa using h1.symm
theorem pn_sea:pn (-1)=1:=by decide
structure FreeB(b:BTrap):Prop where
 cost: ∀d∈b.doors,d.cost=0
 eats:b.eats=1
theorem stp_pn {b:BTrap}(hb:Small b) {c:Int}(h: -1≤c∧c≤2) {x:BStep}(hx:x∈stpN b (pn c)): ∃(i:Nat) (hi:i<b.doors.length),x=((1,(i:Int)),[pn (thr b.doors[i] c)]):=by
 rcases List.mem_append.1 hx with hx|hx
 ·obtain⟨⟨d,i⟩,hm,rfl⟩:=List.mem_map.1 hx
  obtain⟨k,hk,e⟩:=List.getElem_of_mem hm
  simp only[List.length_zipIdx]at hk
  simp only[List.getElem_zipIdx,Nat.zero_add,Prod.mk.injEq]at e
  obtain⟨rfl,rfl⟩:=e
  exact⟨k,hk,by simp only[doorS,pn_mov h]⟩
 ·obtain⟨y,hm,rfl⟩:=List.mem_map.1 hx
  obtain⟨h1,h2⟩:=List.mem_filter.1 hm
  rw[pn_look h (hb.look h1)]at h2
  cases h2
theorem wrs_single {K:QM}(hK:InvQ K)(s:Nat):wrsN K [s]=ofQ K s:=by
 have h1:=hK.of s
 have:lessP (-1,-1) (ofQ K s)=true:=by
  rcases h1 with e|e
  ·rw[e];decide
  ·simp only[lessP,Bool.or_eq_true,decide_eq_true_eq];left;omega
 simp only[wrsN,List.foldl_cons,List.foldl_nil,worse,this,if_true]
theorem wit_door {b:BTrap}(hf:FreeB b) {K:QM}(hK:InvQ K) {i:Nat}(hi:i<b.doors.length)(s:Nat):witN b K (1,(i:Int)) [s]=if ofQ K s=farP then farP else(1+(ofQ K s).1,(ofQ K s).2+1):=by
 unfold witN
 rw[wrs_single hK]
 have e:cosB b (1,(i:Int))=1:=by
  have:=hf.cost _ (List.getElem_mem hi)
  simp[cosB,List.getD,hi,this,hf.eats]
 rw[e]
theorem less_far {p:Int×Int}(h:p.1≤600):lessP p farP=true:=by
 have e:farP.1=1073741824:=rfl
 simp only[lessP,Bool.or_eq_true,decide_eq_true_eq];left;omega
theorem far_less {p:Int×Int}(h:p.1≤600):lessP farP p=false:=by
 have e:farP.1=1073741824:=rfl
 simp only[lessP,Bool.or_eq_false_iff,Bool.and_eq_false_iff,decide_eq_false_iff_not];omega
structure SglQ(b:BTrap)(K:QM):Prop where
 sea:qGet K 1=some (0,0)
 one: ∀c:Int,0≤c→c≤2→ ∀p,qGet K (pn c:Nat)=some p→0≤p.1∧rB b p.1.toNat c=true
theorem rB_step {b:BTrap} {k:Nat} {c:Int} {i:Nat}(hi:i<b.doors.length)(h:rB b k (thr b.doors[i] c)=true):rB b (k+1) c=true:=by
 simp only[rB,Bool.or_eq_true,List.any_eq_true]
 exact .inr ⟨_,List.getElem_mem hi,h⟩
theorem sgl_upd {b:BTrap}(hb:Small b)(hf:FreeB b) {s:Nat} {a:QM×Bool}(hK:InvQ a.1)(h:SglQ b a.1) {x:BStep}(hx:x∈stpN b s):SglQ b (updN b s a x).1:=by
 unfold updN
 split
 rotate_left
 ·exact h
 ·rename_i hl
  have hw:=wit_one hK (hb.cos s x hx)
  refine⟨?_,fun c c0 c2 p hp=> ?_⟩
  ·dsimp only
   rw[qGet_put]
   split
   ·rename_i e
    have e:s=1:=by omega
    subst e
    have e2:ofQ a.1 1=(0,0):=by unfold ofQ;rw[show((1:Nat):Int)=1 from rfl,h.sea];rfl
    rw[e2]at hl
    rcases hw with e3|e3
    ·rw[e3]at hl;exact absurd hl (by decide)
    ·simp only[lessP,Bool.or_eq_true,Bool.and_eq_true,decide_eq_true_eq]at hl;omega
   ·exact h.sea
  ·dsimp only at hp
   rw[qGet_put]at hp
   split at hp
   ·rename_i e
    have e:s=pn c:=by omega
    subst e
    cases hp
    obtain⟨i,hi,rfl⟩:=stp_pn hb ⟨by omega,by omega⟩ hx
    have hin:=(hb.door hi).1
    have ht:=thr_in hin (p:=c) ⟨by omega,by omega⟩
    dsimp only at hl hw⊢
    rw[wit_door hf hK hi]at hl hw⊢
    by_cases hfar:ofQ a.1 (pn (thr b.doors[i] c))=farP
    ·rw[if_pos hfar]at hl
     rcases hK.of (pn c)with e3|e3
     ·rw[e3]at hl;exact absurd hl (by decide)
     ·have:=bnd_le a.1
      rw[far_less (by omega)]at hl;cases hl
    ·rw[if_neg hfar]
     dsimp only
     have hq:0≤(ofQ a.1 (pn (thr b.doors[i] c))).1∧rB b (ofQ a.1 (pn (thr b.doors[i] c))).1.toNat (thr b.doors[i] c)=true:=by
      by_cases hsea:thr b.doors[i] c= -1
      ·rw[hsea,pn_sea]
       have e2:ofQ a.1 1=(0,0):=by unfold ofQ;rw[show((1:Nat):Int)=1 from rfl,h.sea];rfl
       rw[e2]
       exact⟨by decide,by simp[rB]⟩
      ·unfold ofQ at hfar⊢
       cases e:qGet a.1 ((pn (thr b.doors[i] c):Nat):Int)with
       |none=>rw[e]at hfar;exact absurd rfl hfar
       |some q=>
         rw[Option.getD_some]
         exact h.one _ (by omega) ht.2 q e
     refine⟨by omega,?_⟩
     rw[show(1+(ofQ a.1 (pn (thr b.doors[i] c))).1).toNat=(ofQ a.1 (pn (thr b.doors[i] c))).1.toNat+1 by omega]
     exact rB_step hi hq.2
   ·exact h.one c c0 c2 p hp
theorem sgl_fold {b:BTrap}(hb:Small b)(hf:FreeB b) {s:Nat}(hs:s<16): ∀(l:List BStep) {a:QM×Bool},InvQ a.1→SglQ b a.1→(∀x∈l,x∈stpN b s)→SglQ b (l.foldl (updN b s) a).1
 |[],a,_,h,_=>h
 |x::l,a,hK,h,hl=>by
   rw[List.foldl_cons]
   exact sgl_fold hb hf hs l (upd_inv hs hK (hb.cos s x (hl x (by simp)))).1 (sgl_upd hb hf hK h (hl x (by simp))) fun y hy=>hl y (by simp[hy])
theorem sgl_rnd {b:BTrap}(hb:Small b)(hf:FreeB b): ∀(l:List Nat) {a:QM×Bool},InvQ a.1→SglQ b a.1→(∀s∈l,s<16)→SglQ b (l.foldl (rndS b) a).1
 |[],a,_,h,_=>h
 |s::l,a,hK,h,hl=>by
   rw[List.foldl_cons]
   have hs:=hl s (by simp)
   exact sgl_rnd hb hf l (fold_inv hs (stpN b s) hK (hb.cos s)).1 (sgl_fold hb hf hs _ hK h fun _ h=>h) fun y hy=>hl y (by simp[hy])
theorem sgl_st {b:BTrap}(hb:Small b)(hf:FreeB b): ∀k,SglQ b (stN b k).1
 |0=>⟨rfl,fun c c0 c2 p hp=>by
   have e:(stN b 0).1=[(1,0,0)]:=rfl
   rw[e]at hp
   simp only[qGet]at hp
   split at hp
   ·rename_i e
    have e:pn c=pn (-1):=by rw[pn_sea];omega
    have:=pn_inj ⟨by omega,by omega⟩ ⟨by omega,by omega⟩ e
    omega
   ·cases hp⟩
 |k+1=>sgl_rnd hb hf _ (a:=((stN b k).1,false)) (st_inv hb.cos hb.c3 k) (sgl_st hb hf k) (range_16 hb.c3)
theorem way_law {b:BTrap}(hb:Small b)(hf:FreeB b) {n:Nat}(he:(stN b (n+1)).2=false) {c:Int}(hc:0≤c∧c≤b.chambers-1):
 (qGet (stN b (n+1)).1 (pn c:Nat)=none∧ ∀k,rB b k c=false)∨ ∃p,qGet (stN b (n+1)).1 (pn c:Nat)=some p∧0≤p.1∧p.1≤480∧rB b p.1.toNat c=true∧ ∀j:Nat,(j:Int)<p.1→rB b j c=false:=by
 obtain⟨e1,e2⟩:=end_fix hb.cos hb.c3 he
 have hK:=st_inv hb.cos hb.c3 n
 have hS:=sgl_st hb hf n
 have h3:=hb.c3
 have hch:=hb.ok.ch
 rw[e1]
 generalize (stN b n).1=K at*
 have hB:=bnd_le K
 have low: ∀(k:Nat) (c:Int),0≤c∧c≤b.chambers-1→rB b k c=true→ ∃p,qGet K (pn c:Nat)=some p∧p.1≤k:=by
  intro k
  induction k with
  |zero=>
    intro c hc h
    simp only[rB,decide_eq_true_eq]at h
    omega
  |succ k ih=>
    intro c hc h
    simp only[rB,Bool.or_eq_true,List.any_eq_true]at h
    rcases h with h|⟨d,hd,h⟩
    ·obtain⟨p,k1,k2⟩:=ih c hc h
     exact⟨p,k1,by omega⟩
    ·obtain⟨i,hi,rfl⟩:=List.getElem_of_mem hd
     have hin:=hb.door hi
     have hdr:=hb.ok.door
     simp only[allB,List.all_eq_true]at hdr
     have hdr:=hdr _ (List.getElem_mem hi)
     simp only[bdoB,Bool.and_eq_true,Bool.or_eq_true,wiB_iff,decide_eq_true_eq]at hdr
     have ht:thr b.doors[i] c= -1∨0≤thr b.doors[i] c∧thr b.doors[i] c≤b.chambers-1:=by
      unfold thr
      split
      ·omega
      ·split
       ·omega
       ·split<;>omega
     have hq: ∃q,qGet K (pn (thr b.doors[i] c):Nat)=some q∧q.1≤k:=by
      rcases ht with e|e
      ·rw[e,pn_sea]
       exact⟨(0,0),hS.sea,by simp⟩
      ·exact ih _ e h
     obtain⟨q,q1,q2⟩:=hq
     have hqv:=hK.val _ q q1
     have hs1:1≤pn c∧pn c<2^(b.chambers.toNat+1):=by
      unfold pn shN
      rw[Nat.shiftLeft_eq,Nat.one_mul]
      exact⟨Nat.pow_pos (by decide),Nat.pow_lt_pow_right (by decide) (by unfold atN;omega)⟩
     have hmem:((1,(i:Int)),[pn (thr b.doors[i] c)])∈stpN b (pn c):=by
      refine List.mem_append_left _ (List.mem_map.2 ⟨(b.doors[i],i),?_,?_⟩)
      ·rw[List.mem_iff_getElem];exact⟨i,by simpa using hi,by simp⟩
      ·simp only[doorS,pn_mov (c:=c) ⟨by omega,by omega⟩]
     have hl:=e2 (pn c) hs1.1 hs1.2 _ hmem
     dsimp only at hl
     have eq:ofQ K (pn (thr b.doors[i] c))=q:=by unfold ofQ;rw[q1];rfl
     rw[wit_door hf hK hi,eq,if_neg (by rintro rfl;simp only[farP]at hqv;omega)]at hl
     have hpv:=hK.of (pn c)
     unfold ofQ at hl
     cases e:qGet K ((pn c:Nat):Int)with
     |none=>
       rw[e,Option.getD_none,less_far (by dsimp only;omega)]at hl
       cases hl
     |some p=>
       rw[e]at hl
       simp only[Option.getD_some,lessP,Bool.or_eq_false_iff,decide_eq_false_iff_not]at hl
       exact⟨p,rfl,by push_cast;omega⟩
 cases e:qGet K ((pn c:Nat):Int)with
 |none=>
   refine .inl ⟨rfl,fun k=> ?_⟩
   cases h:rB b k c
   ·rfl
   ·obtain⟨p,k1,_⟩:=low k c hc h
    rw[e]at k1;cases k1
 |some p=>
   have hp:=hS.one c hc.1 (by omega) p e
   have hv:=hK.val _ p e
   refine .inr ⟨p,rfl,hp.1,by omega,hp.2,fun j hj=> ?_⟩
   cases h:rB b j c
   ·rfl
   ·obtain⟨q,k1,k2⟩:=low j c hc h
    rw[e]at k1;cases k1;omega
end Go.Proofs.YtmgkcipcjabigaaGreatDoor

/-
  TopLed: turns that a group needs: plain law.
-/
namespace Go.Proofs.YtmgkcipcjabigaaGreatDoor
open Go.Ab
def phi(b:BTrap)(p:Int):Int:=if p= -1 then b.chambers else p
structure Gts(b:BTrap)(gs:List DGate):Prop where
 len:gs.length=b.doors.length
 at_: ∀i (h:i<gs.length) (h':i<b.doors.length),gs[i].a=b.doors[i].a∧gs[i].b=phi b b.doors[i].b
theorem Gts.flip {b gs}(h:Gts b gs)(c:List Int):Gts b (flipG gs c):=by
 have hl:(flipG gs c).length=gs.length:=by simp
 refine⟨by rw[hl];exact h.len,fun i hi hi'=> ?_⟩
 have hi2:i<gs.length:=by omega
 have e:(flipG gs c)[i]? =_:=flipS_get c 0 gs i
 rw[List.getElem?_eq_getElem hi,List.getElem?_eq_getElem hi2,Option.map_some,Option.some.injEq]at e
 rw[e]
 have:=h.at_ i hi2 hi'
 split<;>exact this
theorem flip_op(gs:List DGate)(c:List Int) {i:Nat}(hi:i<(flipG gs c).length)(hi2:i<gs.length):(flipG gs c)[i].op=if (i:Int)∈c then !gs[i].op else gs[i].op:=by
 have e:(flipG gs c)[i]? =_:=flipS_get c 0 gs i
 rw[List.getElem?_eq_getElem hi,List.getElem?_eq_getElem hi2,Option.map_some,Option.some.injEq,Nat.zero_add]at e
 rw[e]
 split<;>rfl
theorem rB_sea(b:BTrap): ∀k,rB b k (-1)=true
 |0=>by simp[rB]
 |k+1=>by simp[rB,rB_sea b k]
def Plc(b:BTrap)(p:Int):Prop:=p= -1∨0≤p∧p≤b.chambers-1
theorem ways_or {n:Nat} {gs:List DGate} {p x:Int}(h:x∈waysS n gs p):x=p∨wayB gs p x=true:=by
 simp only[waysS]at h
 split at h
 ·exact .inl (by simpa using h)
 ·exact .inr (List.mem_filter.1 h).2
theorem ways_must {n:Nat} {gs:List DGate} {p x y:Int}(hy:0≤y∧y<n)(hw:wayB gs p y=true)(h:x∈waysS n gs p):wayB gs p x=true:=by
 simp only[waysS]at h
 split at h
 ·rename_i e
  have:y∈(rangeI n).filter (wayB gs p):=List.mem_filter.2 ⟨mem_rangeI.2 hy,hw⟩
  rw[e]at this;cases this
 ·exact(List.mem_filter.1 h).2
theorem door_of {b:BTrap}(hb:BeastOk b) {i:Nat}(hi:i<b.doors.length):(0≤b.doors[i].a∧b.doors[i].a≤b.chambers-1)∧Plc b b.doors[i].b∧b.doors[i].a≠b.doors[i].b:=by
 have hdr:=hb.door
 simp only[allB,List.all_eq_true]at hdr
 have hdr:=hdr _ (List.getElem_mem hi)
 simp only[bdoB,Bool.and_eq_true,Bool.or_eq_true,wiB_iff,decide_eq_true_eq,Bool.not_eq_true',decide_eq_false_iff_not]at hdr
 exact⟨hdr.1,hdr.2.1.symm,hdr.2.2.1⟩
theorem way_thr {b:BTrap}(hb:BeastOk b) {gs:List DGate}(hg:Gts b gs) {p q:Int}(hp:0≤p∧p≤b.chambers-1) {i:Nat}(hi:i<gs.length)(hi':i<b.doors.length)
 (h:gs[i].a=p∧gs[i].b=q∨gs[i].b=p∧gs[i].a=q):q=phi b (thr b.doors[i] p)∧Plc b (thr b.doors[i] p):=by
 obtain⟨d1,d2,d3⟩:=door_of hb hi'
 obtain⟨g1,g2⟩:=hg.at_ i hi hi'
 rw[g1,g2]at h
 have hp1: ¬p= -1:=by omega
 rcases h with ⟨h1,h2⟩|⟨h1,h2⟩
 ·have e:thr b.doors[i] p=b.doors[i].b:=by unfold thr;rw[if_neg hp1,if_pos h1.symm]
  rw[e];exact⟨h2.symm,d2⟩
 ·have hb1: ¬b.doors[i].b= -1:=fun e=>by unfold phi at h1;rw[if_pos e]at h1;omega
  have h1:b.doors[i].b=p:=by unfold phi at h1;rw[if_neg hb1]at h1;exact h1
  have e:thr b.doors[i] p=b.doors[i].a:=by unfold thr;rw[if_neg hp1,if_neg (by omega),if_pos h1.symm]
  rw[e]
  refine⟨?_, .inr ⟨by omega,by omega⟩⟩
  unfold phi;rw[if_neg (by omega)];exact h2.symm
theorem one_caught(n:Nat)(p:Int):caughtS n [1] [p]=if p=(n:Int)-1 then 1 else 0:=by simp[caughtS]
theorem one_nn: ∀f∈ [(1:Int)],0≤f:=by simp
theorem worth_low {b:BTrap}(hb:BeastOk b): ∀(k:Nat) (gs:List DGate) (p:Int),Gts b gs→Plc b p→1≤worthS (b.chambers.toNat+1) 2 [1] k gs [phi b p]→rB b k p=true
 |0,gs,p,hg,hp,h=>by
   have hch:=hb.ch
   rw[show worthS (b.chambers.toNat+1) 2 [1] 0 gs [phi b p]=caughtS (b.chambers.toNat+1) [1] [phi b p]from rfl,one_caught]at h
   split at h
   ·rename_i e
    rcases hp with rfl|hp
    ·exact rB_sea b 0
    ·unfold phi at e
     rw[if_neg (by omega)]at e
     omega
   ·omega
 |k+1,gs,p,hg,hp,h=>by
   rcases hp with rfl|hp
   ·exact rB_sea b _
   have hp1:phi b p=p:=by unfold phi;rw[if_neg (by omega)]
   rw[hp1]at h
   obtain⟨c,hc,e⟩:=worthS_mem (n:=b.chambers.toNat+1) (h:=2) one_nn k gs [p]
   obtain⟨q,hq⟩:=List.exists_mem_of_ne_nil _ (waysS_ne (b.chambers.toNat+1) (flipG gs c) p)
   have hm:[q]∈movesS ([p].map (waysS (b.chambers.toNat+1) (flipG gs c))):=mem_moves.2 ⟨rfl,fun i x p' hx hp'=>by
    match i with
    |0=>simp at hx hp';subst hx;subst hp';exact hq
    |i+1=>simp at hx⟩
   have hle:=leastS_le (h:=2) (fs:=[1]) (k:=k) hm
   have hg':=hg.flip c
   have h1:1≤worthS (b.chambers.toNat+1) 2 [1] k (flipG gs c) [q]:=by omega
   rcases ways_or hq with rfl|hw
   ·have:=worth_low hb k _ q hg' (.inr hp) (by rw[hp1];exact h1)
    simp[rB,this]
   ·simp only[wayB,List.any_eq_true,Bool.and_eq_true,Bool.or_eq_true,decide_eq_true_eq]at hw
    obtain⟨g,hgm,_,hw⟩:=hw
    obtain⟨i,hi,rfl⟩:=List.getElem_of_mem hgm
    have hi':i<b.doors.length:=by rw[←hg'.len];exact hi
    obtain⟨e1,e2⟩:=way_thr hb hg' hp hi hi' hw
    exact rB_step hi' (worth_low hb k _ _ hg' e2 (by rw[←e1];exact h1))
def turnL(i:Nat):List Nat→List Int
 |[]=>[(i:Int)]
 |j::_=>if i<j then [(i:Int),(j:Int)]else [(j:Int),(i:Int)]
theorem worth_high {b:BTrap}(hb:BeastOk b): ∀(k:Nat) (gs:List DGate) (p:Int) (O:List Nat),Gts b gs→Plc b p→O.length≤1→(∀i∈O,i<gs.length)→(∀i (h:i<gs.length),gs[i].op=true↔i∈O)→
 (∀j,j<k→rB b j p=false)→rB b k p=true→(∀k',k=k'+1→ ∀i∈O,∀(h:i<b.doors.length),rB b k' (thr b.doors[i] p)=false)→1≤worthS (b.chambers.toNat+1) 2 [1] k gs [phi b p]
 |0,gs,p,O,hg,hp,_,_,_,_,hk,_=>by
   have hch:=hb.ch
   rw[show worthS (b.chambers.toNat+1) 2 [1] 0 gs [phi b p]=caughtS (b.chambers.toNat+1) [1] [phi b p]from rfl,one_caught]
   simp only[rB,decide_eq_true_eq]at hk
   subst hk
   rw[if_pos (by unfold phi;rw[if_pos rfl];push_cast;omega)]
   omega
 |k+1,gs,p,O,hg,hp,hO1,hO2,hO,hmin,hk,hprev=>by
   have hch:=hb.ch
   have hp:0≤p∧p≤b.chambers-1:=by
    rcases hp with rfl|hp
    ·have:=hmin k (by omega);rw[rB_sea]at this;cases this
    ·exact hp
   have hp1:phi b p=p:=by unfold phi;rw[if_neg (by omega)]
   rw[hp1]
   simp only[rB,hmin k (by omega),Bool.false_or,List.any_eq_true]at hk
   obtain⟨d,hd,hk⟩:=hk
   obtain⟨i,hi',rfl⟩:=List.getElem_of_mem hd
   have hi:i<gs.length:=by rw[hg.len];exact hi'
   have hiO:i∉O:=fun hm=>by have:=hprev k rfl i hm hi';rw[hk]at this;cases this
   have htl: ∀j,turnL i [j]=if i<j then [(i:Int),(j:Int)]else [(j:Int),(i:Int)]:=fun j=>rfl
   have hcm: ∀x:Nat,(x:Int)∈turnL i O↔x=i∨x∈O:=by
    intro x
    match O,hO1 with
    |[],_=>simp only[turnL,List.mem_cons,List.not_mem_nil,or_false];omega
    |[j],_=>
      rw[htl]
      by_cases hlt:i<j
      ·rw[if_pos hlt];simp only[List.mem_cons,List.not_mem_nil,or_false];omega
      ·rw[if_neg hlt];simp only[List.mem_cons,List.not_mem_nil,or_false];omega
   have hcc:turnL i O∈choicesS 2 gs.length:=by
    refine mem_choices.2 ?_
    match O,hO1,hO2,hiO with
    |[],_,_,_=>exact⟨by simp[turnL],by simp[turnL],fun y hy=>by simp only[turnL,List.mem_cons,List.not_mem_nil,or_false]at hy;omega⟩
    |[j],_,h2,h3=>
      have hj:=h2 j (by simp)
      have hij:i≠j:=by simpa using h3
      rw[htl]
      by_cases hlt:i<j
      ·rw[if_pos hlt]
       exact⟨by simp,List.pairwise_cons.2 ⟨fun y hy=>by simp only[List.mem_cons,List.not_mem_nil,or_false]at hy;omega,by simp⟩,fun y hy=>by simp only[List.mem_cons,List.not_mem_nil,or_false]at hy;omega⟩
      ·rw[if_neg hlt]
       exact⟨by simp,List.pairwise_cons.2 ⟨fun y hy=>by simp only[List.mem_cons,List.not_mem_nil,or_false]at hy;omega,by simp⟩,fun y hy=>by simp only[List.mem_cons,List.not_mem_nil,or_false]at hy;omega⟩
   have hge:=worthS_ge (n:=b.chambers.toNat+1) (h:=2) (fs:=[1]) (k:=k) (gs:=gs) (ps:=[p]) hcc
   refine Int.le_trans (le_leastS fun m hm=> ?_) hge
   have hg':=hg.flip (turnL i O)
   have hl':(flipG gs (turnL i O)).length=gs.length:=by simp
   have hop: ∀x (h:x<(flipG gs (turnL i O)).length),(flipG gs (turnL i O))[x].op=true↔x∈ [i]:=by
    intro x hx
    have hx2:x<gs.length:=by omega
    rw[flip_op gs _ hx hx2]
    have hox:=hO x hx2
    simp only[hcm x,List.mem_singleton]
    by_cases e:x=i
    ·subst e
     have:gs[x].op=false:=by cases h:gs[x].op;rfl;exact absurd (hox.1 h) hiO
     simp[this]
    ·by_cases e2:x∈O
     ·have:=hox.2 e2
      simp[e,e2,this]
     ·have:gs[x].op=false:=by cases h:gs[x].op;rfl;exact absurd (hox.1 h) e2
      simp[e,e2,this]
   obtain⟨ml,mw⟩:=mem_moves.1 hm
   obtain⟨q,rfl⟩: ∃q,m=[q]:=List.length_eq_one_iff.1 ml
   have hq:=mw 0 q p rfl rfl
   have hi2:i<(flipG gs (turnL i O)).length:=by omega
   have hgi:=hg'.at_ i hi2 hi'
   have hdo:=door_of hb hi'
   have hne:thr b.doors[i] p=b.doors[i].b∧p=b.doors[i].a∨thr b.doors[i] p=b.doors[i].a∧p=b.doors[i].b:=by
    by_cases e1:p=b.doors[i].a
    ·left;exact⟨by unfold thr;rw[if_neg (by omega),if_pos e1],e1⟩
    ·by_cases e2:p=b.doors[i].b
     ·right;exact⟨by unfold thr;rw[if_neg (by omega),if_neg e1,if_pos e2],e2⟩
     ·exfalso
      have e:thr b.doors[i] p=p:=by unfold thr;rw[if_neg (by omega),if_neg e1,if_neg e2]
      rw[e,hmin k (by omega)]at hk;cases hk
   have hw0: ∃y:Int,(0≤y∧y<((b.chambers.toNat+1:Nat):Int))∧wayB (flipG gs (turnL i O)) p y=true:=by
    refine⟨phi b (thr b.doors[i] p),?_,?_⟩
    ·rcases hne with ⟨e,_⟩|⟨e,_⟩
     ·rw[e]
      unfold phi
      rcases hdo.2.1 with e2|e2
      ·rw[if_pos e2];push_cast;omega
      ·rw[if_neg (by omega)];push_cast;omega
     ·rw[e]
      unfold phi
      rw[if_neg (by omega)];push_cast;omega
    ·simp only[wayB,List.any_eq_true,Bool.and_eq_true,Bool.or_eq_true,decide_eq_true_eq]
     refine⟨_,List.getElem_mem hi2,(hop i hi2).2 (by simp),?_⟩
     rw[hgi.1,hgi.2]
     rcases hne with ⟨e,e2⟩|⟨e,e2⟩
     ·left;rw[e];exact⟨e2.symm,rfl⟩
     ·right;rw[e]
      have hb1: ¬b.doors[i].b= -1:=by omega
      have ha1: ¬b.doors[i].a= -1:=by omega
      unfold phi;rw[if_neg hb1,if_neg ha1];exact⟨e2.symm,rfl⟩
   obtain⟨y,hy1,hy2⟩:=hw0
   have hw:=ways_must hy1 hy2 hq
   simp only[wayB,List.any_eq_true,Bool.and_eq_true,Bool.or_eq_true,decide_eq_true_eq]at hw
   obtain⟨g,hgm,hgo,hw⟩:=hw
   obtain⟨x,hx,rfl⟩:=List.getElem_of_mem hgm
   have hxi:x=i:=by simpa using (hop x hx).1 hgo
   subst hxi
   obtain⟨e1,e2⟩:=way_thr hb hg' hp hx hi' hw
   rw[e1]
   refine worth_high hb k _ _ [x] hg' e2 (by simp) (by simpa using hx) hop (fun j hj=> ?_) hk (fun k' hk' y hy hyd=> ?_)
   ·cases h:rB b j (thr b.doors[x] p)
    ·rfl
    ·have:=rB_step hi' h
     rw[hmin (j+1) (by omega)]at this;cases this
   ·have hy:y=x:=by simpa using hy
    subst hy
    by_cases hsea:thr b.doors[y] p= -1
    ·exfalso
     have hj:rB b 0 (thr b.doors[y] p)=false:=by
      cases h:rB b 0 (thr b.doors[y] p)
      ·rfl
      ·have:=rB_step hi' h
       rw[hmin 1 (by omega)]at this;cases this
     rw[hsea,rB_sea]at hj;cases hj
    ·have back:thr b.doors[y] (thr b.doors[y] p)=p:=by
      rcases hne with ⟨e,e2⟩|⟨e,e2⟩
      ·rw[e]at hsea⊢
       unfold thr
       rw[if_neg hsea,if_neg (fun h=>hdo.2.2 h.symm),if_pos rfl];exact e2.symm
      ·rw[e]
       unfold thr
       rw[if_neg (by omega),if_pos rfl];exact e2.symm
     rw[back]
     exact hmin k' (by omega)
end Go.Proofs.YtmgkcipcjabigaaGreatDoor

/-
  TopLed: ask, Way, Least; the examples; gated.
-/
namespace Go.Proofs.YtmgkcipcjabigaaGreatDoor
open Go.Ab
set_option maxHeartbeats 4000000 in
theorem e_ask_no {b:BTrap}(hb:Small b) {n:Nat}(h1: ∀k,k≤n→(stN b k).2=true)(h2:(stN b (n+1)).2=false)(l:List Int)(hl:l.length≤40)(hp: ∀p∈l,-1≤p∧p≤2)(hq:qGet (stN b (n+1)).1 (ofN l:Nat)=none)(F:Ab.Loc)(S:Stk)(lab:Nat):
 den T 25 [.agg (bV b), .bool true, .sl .no 1 (es cInt l)] lab (F::S)=some (.tup [.nilp, .agg [i64 1073741824,i64 1073741824],i64 3],F::S):=by
 have hS:=fun F Sf lab k0 k1=>e_start hb h1 h2 F Sf lab k0 k1
 have hO:=fun lab S=>e_of l hl hp lab S
 generalize (stN b (n+1)).1=K at*
 have hH:=fun(G:Ab.Loc) (g1:G.get 208=some (.cell (hV b (F::S).length 1208))) (g2:G.get 1208=some (.mq K)) lab=>e_hof (b:=b) (K:=K) (dh:=(F::S).length) (lh:=208) (dm:=(F::S).length) (lm:=1208) (S:=G::F::S) ⟨by simp,by simp,by rw[sget_cons,if_pos rfl];exact g1,by rw[sget_cons,if_pos rfl];exact g2⟩ (ofN l) lab
 have e:ofQ K (ofN l)=farP:=by unfold ofQ;rw[hq];rfl
 rw[e]at hH
 simp only[farP,List.length_cons]at hH
 generalize ofN l=m at*
 rw[den_fn t25 _ _ _ rfl]
 simp only[b25]
 simp (maxSteps:=1000000) (disch:=first|omega|assumption|decide +kernel|(simp;done)|(simp;omega)|fail) [run_drawnK,orSlow_none,hS,hO,hH,eqCells]
set_option maxHeartbeats 4000000 in
theorem e_ask_ok {b:BTrap}(hb:Small b) {n:Nat}(h1: ∀k,k≤n→(stN b k).2=true)(h2:(stN b (n+1)).2=false)(l:List Int)(hl:l.length≤40)(hp: ∀p∈l,-1≤p∧p≤2)(p:Int×Int)(hq:qGet (stN b (n+1)).1 (ofN l:Nat)=some p)(hp4:p.1≤480)(F:Ab.Loc)(S:Stk)(lab:Nat)(k0:F.get lab=none)(k1:F.get (lab+1000)=none):
 den T 25 [.agg (bV b), .bool true, .sl .no 1 (es cInt l)] lab (F::S)=some (.tup [.ptr S.length lab 0, .agg [i64 p.1,i64 p.2],i64 0],(F.put lab (.cell (hV b S.length (lab+1000)))).put (lab+1000) (.mq (stN b (n+1)).1)::S):=by
 have hS:=fun F Sf lab k0 k1=>e_start hb h1 h2 F Sf lab k0 k1
 have hO:=fun lab S=>e_of l hl hp lab S
 generalize (stN b (n+1)).1=K at*
 have hH:=fun(G:Ab.Loc) (g1:G.get 208=some (.cell (hV b (F::S).length 1208))) (g2:G.get 1208=some (.mq K)) lab=>e_hof (b:=b) (K:=K) (dh:=(F::S).length) (lh:=208) (dm:=(F::S).length) (lm:=1208) (S:=G::F::S) ⟨by simp,by simp,by rw[sget_cons,if_pos rfl];exact g1,by rw[sget_cons,if_pos rfl];exact g2⟩ (ofN l) lab
 have e:ofQ K (ofN l)=p:=by unfold ofQ;rw[hq];rfl
 rw[e]at hH
 simp only[List.length_cons]at hH
 generalize ofN l=m at*
 have e1: ¬p.1=1073741824:=by omega
 rw[den_fn t25 _ _ _ rfl]
 simp only[b25]
 simp (maxSteps:=1000000) (disch:=first|omega|assumption|decide +kernel|(simp;done)|(simp;omega)|fail) [run_drawnK,orSlow_none,hS,hO,hH,eqCells,e1,k0,k1,dedup,newLab,idxOf]
set_option maxHeartbeats 4000000 in
theorem e_Way {b:BTrap}(hb:Small b) {n:Nat}(h1: ∀k,k≤n→(stN b k).2=true)(h2:(stN b (n+1)).2=false)(c:Int)(hc:0≤c∧c≤b.chambers-1)(o:Option (Int×Int))(hq:qGet (stN b (n+1)).1 (pn c:Nat)=o)(ho: ∀p,o=some p→p.1≤480)(lab s):
 den T 12 [.agg (bV b),i64 c] lab s=some (.tup [i64 (match o with|some p=>p.1|none=>0),i64 (match o with|some _=>0|none=>3)],s):=by
 have hC:=fun lab s=>e_CheckB b hb.ok lab s
 have hc3:=hb.c3
 have hch:=fun lab s=>e_chamberB b hb.ok.ch c lab s
 rw[wiB_iff.2 hc]at hch
 have e1:es cInt [c]=[[i64 c]]:=rfl
 have e2:ofN [c]=pn c:=by simp only[ofN,List.foldl_cons,List.foldl_nil,orB,Nat.zero_or]
 cases o with
 |none=>
   have hA:=fun F S lab=>e_ask_no hb h1 h2 [c] (by simp) (by simp;omega) (by rw[e2];exact hq) F S lab
   rw[e1]at hA
   simp only
   rw[den_fn t12 _ _ _ rfl]
   simp only[b12]
   simp (maxSteps:=1000000) (disch:=first|omega|assumption|decide +kernel|(simp;done)|(simp;omega)|fail) [hC,hch,hA]
 |some p=>
   have hA:=fun F S lab k0 k1=>e_ask_ok hb h1 h2 [c] (by simp) (by simp;omega) p (by rw[e2];exact hq) (ho p rfl) F S lab k0 k1
   rw[e1]at hA
   simp only
   generalize (stN b (n+1)).1=K at*
   rw[den_fn t12 _ _ _ rfl]
   simp only[b12]
   simp (maxSteps:=1000000) (disch:=first|omega|assumption|decide +kernel|(simp;done)|(simp;omega)|fail) [hC,hch,hA]
def exB:BTrap:=⟨3,[⟨0,-1,5⟩,⟨0,1,2⟩,⟨1,2,1⟩],[1],1,1,[1,2]⟩
theorem exB_ok:Small exB:=⟨beast_iff.1 (by decide +kernel),by decide⟩
theorem exB_on: ∀k,k≤1→(stN exB k).2=true:=by decide +kernel
theorem exB_off:(stN exB 2).2=false:=by decide +kernel
theorem exB_price:qGet (stN exB 2).1 (ofN [1,2]:Nat)=some (13,4):=by decide +kernel
set_option maxHeartbeats 2000000 in
theorem e_Example06(lab s):den T 20 [] lab s=some (.agg (bV exB),s):=by
 rw[den_fn t20 _ _ _ rfl]
 simp only[b20]
 simp (maxSteps:=1000000) (disch:=first|omega|assumption|decide +kernel|(simp;done)|(simp;omega)|fail) [exB,es]
end Go.Proofs.YtmgkcipcjabigaaGreatDoor

/-
  TopLed: both examples; the trap of doors.
-/
namespace Go.Proofs.YtmgkcipcjabigaaGreatDoor
open Go.Ab
def exT:DTrap:=⟨3,2,1,[⟨0,1,true⟩,⟨1,2,false⟩],[⟨0,10⟩,⟨1,7⟩]⟩
def exO:DTrap:=changedT exT [0]
theorem ex_ok:doorB exT=true:=by decide
set_option maxHeartbeats 2000000 in
theorem e_ExampleD(lab s):den T 18 [] lab s=some (.tup [.agg (dV exT), .agg (dV exO)],s):=by
 have hr: ∀y∈([0]:List Int),0≤y∧y<exT.gates.length:=by decide
 have h2:=fun lab s=>e_Changed exT (doorB_short ex_ok) [0] (by decide) hr (by decide) lab s
 change∀lab s,den T _ [.agg [i64 3,i64 2,i64 1, .sl .no 3 [[i64 0,i64 1, .bool true],[i64 1,i64 2, .bool false]], .sl .no 2 [[i64 0,i64 10],[i64 1,i64 7]]], .sl .no 1 [[i64 0]]] lab s=some (.agg [i64 3,i64 2,i64 1, .sl .no 3 [[i64 0,i64 1, .bool false],[i64 1,i64 2, .bool false]], .sl .no 2 [[i64 0,i64 10],[i64 1,i64 7]]],s)at h2
 change _=some (V.tup [.agg [i64 3,i64 2,i64 1, .sl .no 3 [[i64 0,i64 1, .bool true],[i64 1,i64 2, .bool false]], .sl .no 2 [[i64 0,i64 10],[i64 1,i64 7]]], .agg [i64 3,i64 2,i64 1, .sl .no 3 [[i64 0,i64 1, .bool false],[i64 1,i64 2, .bool false]], .sl .no 2 [[i64 0,i64 10],[i64 1,i64 7]]]],s)
 rw[den_fn t18 _ _ _ rfl]
 simp only[b18]
 simp (maxSteps:=1000000) (disch:=first|omega|assumption|decide +kernel|(simp;done)|(simp;omega)|fail) [run_drawnK,orSlow_none,h2]
theorem ex_worth:worthR exT=(10,0):=by decide +kernel
set_option maxHeartbeats 4000000 in
theorem e_Least13(lab s):den T 19 [.agg (bV exB)] lab s=some (.tup [i64 13,i64 0],s):=by
 have hC:=fun lab s=>e_CheckB exB exB_ok.ok lab s
 have hA:=fun F S lab k0 k1=>e_ask_ok exB_ok exB_on exB_off [1,2] (by decide) (by decide) (13,4) exB_price (by decide) F S lab k0 k1
 have hp:es cInt exB.places=es cInt [1,2]:=rfl
 generalize (stN exB 2).1=K at*
 simp only at hA
 generalize exB=b at*
 generalize es cInt [1,2]=l at*
 simp only[bV,hp]at hC hA⊢
 rw[den_fn t19 _ _ _ rfl]
 simp only[b19]
 simp (maxSteps:=1000000) (disch:=first|omega|assumption|decide +kernel|(simp;done)|(simp;omega)|fail) [hC,hA]
set_option maxHeartbeats 4000000 in
theorem e_led(lab s):den T 7 [] lab s=some (.bool true,s):=by
 have h1:=fun lab s=>e_ExampleD lab s
 have h2:=fun lab s=>e_Worth exT (doorB_short ex_ok) lab s
 rw[ex_worth]at h2
 have h3:=fun lab s=>e_Example06 lab s
 have h4:=fun lab s=>e_Least13 lab s
 generalize exT=X at*
 generalize exO=Z at*
 generalize exB=b at*
 rw[den_fn t7 _ _ _ rfl]
 simp only[b7]
 simp (maxSteps:=6000000) (disch:=first|omega|assumption|decide +kernel|(simp;done)|(simp;omega)|fail) [run_drawnK,orSlow_none,h1,h2,h3,h4]
def gatG(b:BTrap)(d:BDoor):DGate:=⟨d.a,phi b d.b,false⟩
def gatT(b:BTrap)(c k:Int):DTrap:=⟨b.chambers+1,k,2,b.doors.map (gatG b),[⟨c,1⟩]⟩
theorem snocG {α β:Type}(f:α→β): ∀(l:List α) (a:List β),l.foldl (fun a x=>a ++[f x]) a=a ++l.map f
 |[],a=>by simp
 |x::l,a=>by rw[List.foldl_cons,snocG f l];simp
abbrev gtF(b:BTrap)(D:Nat)(c k:Int)(a:List DGate):Ab.Loc:=[(48, .cell (bV b)),(96, .cell zeroT),(112, .cell [i64 (b.chambers+1),i64 k,i64 2, .sl (.own D 117) 3 (es cGate a), .sl .full 2 [[i64 c,i64 1]]]),(117, .tok a.length)]
abbrev gtE(D:Nat)(i:Nat):Env:=[(3, .ptr D 48 0),(6, .ptr D 96 0),(7, .ptr D 112 0),(8,i64 (i:Nat))]
set_option maxHeartbeats 4000000 in
theorem e_gated(b:BTrap)(hc:1≤b.chambers∧b.chambers≤5)(hd:b.doors.length≤40)(c k:Int)(lab s):den T 10 [.agg (bV b),i64 c,i64 k] lab s=some (.agg (dV (gatT b c k)),s):=by
 have w1:IntKind.i64.wrap (b.chambers+1)=b.chambers+1:=wi _ (by omega) (by omega)
 have key:=loop_fold (T:=Go.Proofs.YtmgkcipcjabigaaGreatDoor.T) (live:=[3,6,7,8]) (keep:=[48,96,112,117]) (b:=d10l0) b.doors (fun i (a:List DGate)=>a.length=i) (fun a d=>a ++[gatG b d])
  (fun i _=>gtE s.length i) (fun _ a=>gtF b s.length c k a::s) (fun a=>(.exit 0,gtE s.length b.doors.length ++[(22, .bool false)],gtF b s.length c k a::s)) (by simp) ?_ ?_ ?_ [] rfl (gtE s.length 0) (gtF b s.length c k []::s) (by simp) (by simp)
 ·rw[snocG (gatG b),List.nil_append]at key
  change Run T b10l0 _ _=_ at key
  simp only[gtE,gtF,zeroT,bV,es_nil,List.length_nil,List.cons_append,List.nil_append,show((0:Nat):Int)=0 from rfl]at key
  have eg:es cGroup [(⟨c,1⟩:DGroup)]=[[i64 c,i64 1]]:=rfl
  unfold gatT
  simp only[dV,eg]
  generalize b.doors.map (gatG b)=G at*
  rw[den_fn t10 _ _ _ rfl]
  simp only[b10]
  simp (maxSteps:=1000000) (disch:=first|omega|assumption|decide +kernel|(simp;done)|(simp;omega)|fail) [run_drawnK,orSlow_none,w1,key]
 ·intro i a hi hl
  have hi2:(i:Int)<b.doors.length:=by omega
  have e0: ∀x:Int,es cGate a ++[[i64 (b.doors[i]).a,i64 x, .bool false]]=es cGate (a ++[⟨(b.doors[i]).a,x,false⟩]):=fun x=>by simp[es]
  unfold gatG phi
  generalize hG:b.doors[i]=g at*
  by_cases h:g.b= -1
  ·simp (maxSteps:=1000000) (disch:=first|omega|assumption|decide +kernel|(simp;done)|(simp;omega)|fail) [run_drawnK,orSlow_none,hi,hi2,hG,h,e0,appK_own1,hl,wk i (by omega)]
  ·simp (maxSteps:=1000000) (disch:=first|omega|assumption|decide +kernel|(simp;done)|(simp;omega)|fail) [run_drawnK,orSlow_none,hi,hi2,hG,h,e0,appK_own1,hl,wk i (by omega)]
 ·intro i a hi hl
  simp[hl]
 ·intro a hl
  simp
end Go.Proofs.YtmgkcipcjabigaaGreatDoor

/-
  TopLed: its equation.
-/
namespace Go.Proofs.YtmgkcipcjabigaaGreatDoor
open Go.Ab
@[simp] theorem frzE_tok(l e loc r n):frzE l e loc r (some (.tok n))=(e,loc::r):=rfl
def ledO(b:BTrap):BTrap:= {b with doors:=b.doors.map zeroD3,look:=0,eats:=1}
def ledK(b:BTrap)(k:Nat):BTrap:=(List.range k).foldl freedB {b with look:=0,eats:=1}
theorem ledK_facts(b:BTrap): ∀k,k≤b.doors.length→(ledK b k).doors.length=b.doors.length∧(∀i,(ledK b k).doors[i]? =if i<k then(b.doors[i]?).map zeroD3 else b.doors[i]?)∧(ledK b k).chambers=b.chambers∧(ledK b k).seen=b.seen∧(ledK b k).look=0∧(ledK b k).eats=1∧(ledK b k).places=b.places
 |0,_=>⟨rfl,fun i=>by simp[ledK],rfl,rfl,rfl,rfl,rfl⟩
 |k+1,h=>by
   obtain⟨h1,h2,h3,h4,h5,h6,h7⟩:=ledK_facts b k (by omega)
   have e:ledK b (k+1)=freedB (ledK b k) k:=by simp[ledK,List.range_succ,List.foldl_append]
   rw[e]
   refine⟨by simp[freedB,h1],fun i=> ?_,h3,h4,h5,h6,h7⟩
   simp only[freedB,List.getElem?_modify,h2]
   by_cases e1:k=i
   ·subst e1;simp
   ·by_cases e2:i<k
    ·simp[e1,e2,show i<k+1 by omega]
    ·simp[e1,e2,show¬i<k+1 by omega]
theorem ledK_all(b:BTrap):ledK b b.doors.length=ledO b:=by
 obtain⟨h1,h2,h3,h4,h5,h6,h7⟩:=ledK_facts b _ (Nat.le_refl _)
 have e:(ledK b b.doors.length).doors=b.doors.map zeroD3:=by
  apply List.ext_getElem?
  intro i
  rw[h2,List.getElem?_map]
  split
  ·rfl
  ·rename_i hi;rw[List.getElem?_eq_none (by omega)];rfl
 generalize ledK b b.doors.length=o at*
 obtain⟨c,d,s,l,e',p⟩:=o
 simp only at*
 subst h3 h4 h5 h6 h7 e
 rfl
abbrev ldE(D:Nat)(c:Int)(k:Nat):Env:=[(1,i64 c),(2, .ptr D 32 0),(5, .ptr D 80 0),(6,i64 (k:Nat))]
abbrev ldF(b:BTrap)(a:BTrap×Cap):Ab.Loc:=[(32, .cell (bV b)),(80, .cell [i64 a.1.chambers, .sl .no 3 (es cDoorB a.1.doors), .sl a.2 1 (es cInt a.1.seen),i64 a.1.look,i64 a.1.eats, .sl .no 1 (es cInt a.1.places)])]
set_option maxHeartbeats 4000000 in
theorem led_l0(b:BTrap)(hf:FarOk b)(hp: ¬b.places=[])(c:Int)(s:Stk)(cp:Cap)(hcp:cp= .full∨cp= .no)(e0:Env)(s0:Stk)
 (he:gcEnv [1,2,5,6] [32,80] e0 s0=ldE s.length c 0) (hs:gcStk [32,80] s0=ldF b (ledK b 0,cp)::s):
 ∃cp',(cp'=Cap.full∨cp'=Cap.no)∧Run T b3l0 e0 s0=some (.exit 0,ldE s.length c b.doors.length ++[(38, .bool false)],ldF b (ledO b,cp')::s):=by
 have key:=loop_fold (T:=T) (live:=[1,2,5,6]) (keep:=[32,80]) (b:=d3l0) (List.range b.doors.length) (fun k (a:BTrap×Cap)=>a.1=ledK b k∧(a.2= .full∨a.2= .no)) (fun a i=>(freedB a.1 i, .no))
  (fun k _=>ldE s.length c k) (fun _ a=>ldF b a::s) (fun a=>(.exit 0,ldE s.length c b.doors.length ++[(38, .bool false)],ldF b a::s)) (by simp) ?_ ?_ ?_ (ledK b 0,cp) ⟨rfl,hcp⟩ e0 s0 he hs
 ·have e: ∀m,∃cp',(cp'=Cap.full∨cp'=Cap.no)∧(List.range m).foldl (fun(a:BTrap×Cap) i=>(freedB a.1 i,Cap.no)) (ledK b 0,cp)=(ledK b m,cp'):=by
   intro m
   induction m with
   |zero=>exact⟨cp,hcp,rfl⟩
   |succ m ih=>
     obtain⟨cp',_,h2⟩:=ih
     refine⟨.no, .inr rfl,?_⟩
     rw[List.range_succ,List.foldl_append,h2]
     simp[ledK,List.range_succ,List.foldl_append]
  obtain⟨cp',h1,h2⟩:=e b.doors.length
  rw[h2,ledK_all]at key
  exact⟨cp',h1,key⟩
 ·intro k a hk hi
  simp only[List.length_range]at hk
  rw[List.getElem_range]
  obtain⟨a,cp1⟩:=a
  obtain⟨h1,h2⟩:=hi
  simp only at h1 h2
  obtain⟨f1,f2,f3,f4,f5,f6,f7⟩:=ledK_facts b k (by omega)
  rw[←h1]at f1 f4 f7
  have hfd:=hf.doors
  have hk1:k<a.doors.length:=by omega
  have hk2:(k:Int)<a.doors.length:=by omega
  have hF:=fun lab s=>e_Freed a ⟨by rw[f1];exact hf.doors,by rw[f4];exact hf.seen,by rw[f7];exact hf.places⟩ (by rw[f7];exact hp) k hk1 lab s
  generalize freedB a k=a' at*
  rcases h2 with rfl|rfl<;>simp (maxSteps:=1000000) (disch:=first|omega|assumption|decide +kernel|(simp;done)|(simp;omega)|fail) [run_drawnK,orSlow_none,hk2,hF,wk k (by omega)]
 ·intro k a hk hi
  refine⟨?_, .inr rfl⟩
  rw[hi.1,List.getElem_range]
  simp[ledK,List.range_succ,List.foldl_append]
 ·intro a hi
  simp only[List.length_range]at hi
  obtain⟨a,cp1⟩:=a
  obtain⟨h1,h2⟩:=hi
  simp only at h1 h2
  obtain⟨f1,_⟩:=ledK_facts b b.doors.length (Nat.le_refl _)
  rw[←h1]at f1
  simp only[List.length_range]
  rcases h2 with rfl|rfl<;>simp (maxSteps:=1000000) (disch:=first|omega|assumption|decide +kernel|(simp;done)|(simp;omega)|fail) [run_drawnK,orSlow_none,f1]
theorem ledO_ok {b:BTrap}(hb:BeastOk b):BeastOk (ledO b) where
 ch:=hb.ch
 dl:=by simp[ledO];exact hb.dl
 look:=⟨Int.le_refl _,by show(0:Int)≤20;omega⟩
 eats:=⟨Int.le_refl _,by show(1:Int)≤9;omega⟩
 door:=by
  have:=hb.door
  simp only[allB,List.all_eq_true]at this⊢
  intro d hd
  obtain⟨x,hx,rfl⟩:=List.mem_map.1 hd
  have h:=this x hx
  simp only[bdoB,Bool.and_eq_true]at h⊢
  exact⟨h.1,h.2.1,h.2.2.1,by show wiB 0 0 20=true;decide⟩
 seen:=hb.seen
 plc:=hb.plc
 ne:=hb.ne
theorem ledO_free(b:BTrap):FreeB (ledO b):=⟨fun d hd=>by obtain⟨x,_,rfl⟩:=List.mem_map.1 hd;rfl,rfl⟩
theorem gts_led(b:BTrap):Gts (ledO b) (b.doors.map (gatG b)):=⟨by simp[ledO],fun i h h'=>by
 simp only[ledO,List.getElem_map,gatG,zeroD3]
 exact⟨trivial,rfl⟩⟩
theorem gat_worth {b:BTrap}(hb:BeastOk b) {c:Int}(hc:0≤c∧c≤b.chambers-1)(T:Int)(k:Nat):worthT (gatT b c T) k=worthS ((ledO b).chambers.toNat+1) 2 [1] k (b.doors.map (gatG b)) [phi (ledO b) c]:=by
 have hch:=hb.ch
 have e1:(b.chambers+1).toNat=b.chambers.toNat+1:=by omega
 have e2:phi (ledO b) c=c:=by unfold phi;rw[if_neg (by omega)]
 rw[e2]
 show worthS (b.chambers+1).toNat 2 [1] k (b.doors.map (gatG b)) [c]=_
 rw[e1];rfl
theorem gat_low {b:BTrap}(hb:BeastOk b) {c:Int}(hc:0≤c∧c≤b.chambers-1) {T:Int} {k:Nat}(h:1≤worthT (gatT b c T) k):rB (ledO b) k c=true:=by
 rw[gat_worth hb hc]at h
 exact worth_low (ledO_ok hb) k _ c (gts_led b) (.inr hc) h
theorem gat_high {b:BTrap}(hb:BeastOk b) {c:Int}(hc:0≤c∧c≤b.chambers-1) {T:Int} {k:Nat}(h:rB (ledO b) k c=true)(hm: ∀j,j<k→rB (ledO b) j c=false):1≤worthT (gatT b c T) k:=by
 rw[gat_worth hb hc]
 refine worth_high (ledO_ok hb) k _ c [] (gts_led b) (.inr hc) (by simp) (by simp) (fun i hi=> ?_) hm h (by simp)
 simp[gatG]
theorem gat_no {b:BTrap}(hb:BeastOk b) {c:Int}(hc:0≤c∧c≤b.chambers-1) {T:Int} {k:Nat}(h:rB (ledO b) k c=false):worthT (gatT b c T) k=0:=by
 have h0:0≤worthT (gatT b c T) k:=worthS_nonneg (fun f hf=>by simp[fishL,gatT]at hf;omega) k _ _
 have: ¬1≤worthT (gatT b c T) k:=fun h1=>by rw[gat_low hb hc h1]at h;cases h
 omega
theorem gat_ok {b:BTrap} {c T T':Int}(h:doorB (gatT b c T)=true)(hT:0≤T'∧T'≤4):doorB (gatT b c T')=true:=by
 have:=doorB_iff.1 h
 exact doorB_iff.2 ⟨this.ch,hT,this.ha,this.gl,this.ol,this.gates,this.groups⟩
theorem turns_no {b:BTrap}(hb:BeastOk b) {c:Int}(hc:0≤c∧c≤b.chambers-1)(h:doorB (gatT b c 0)=true)(hn: ∀k,k≤4→rB (ledO b) k c=false):turnsR (gatT b c 0) 1=(0,3):=by
 have e:turnsF (gatT b c 0) 1=none:=by
  unfold turnsF
  rw[List.find?_eq_none]
  intro k hk
  have hk:=List.mem_range.1 hk
  rw[gat_no hb hc (hn k (by omega))]
  decide
 unfold turnsR
 rw[if_pos h,if_pos (by omega),e]
theorem turns_yes {b:BTrap}(hb:BeastOk b) {c:Int}(hc:0≤c∧c≤b.chambers-1)(h:doorB (gatT b c 0)=true) {k:Nat}(hk:k≤4)(hy:rB (ledO b) k c=true)(hm: ∀j,j<k→rB (ledO b) j c=false):turnsR (gatT b c 0) 1=((k:Int),0):=by
 have e:turnsF (gatT b c 0) 1=some k:=by
  unfold turnsF
  rw[List.find?_range_eq_some]
  refine⟨by simpa using gat_high hb hc hy hm,List.mem_range.2 (by omega),fun j hj=> ?_⟩
  rw[gat_no hb hc (hm j hj)]
  decide
 unfold turnsR
 rw[if_pos h,if_pos (by omega),e]
theorem catch_one {b:BTrap}(hb:BeastOk b) {c:Int}(hc:0≤c∧c≤b.chambers-1) {k:Nat}(h:doorB (gatT b c k)=true)(hy:rB (ledO b) k c=true)(hm: ∀j,j<k→rB (ledO b) j c=false):catchR (gatT b c k) 0=(1,0):=by
 have hw:=gat_high hb hc (T:=k) hy hm
 have e1:wO (aloneT (gatT b c k)) (gatT b c k).turns.toNat (gN (gatT b c k)) (oneN (posOf (gatT b c k) 0))=worthT (gatT b c k) k:=by
  have h1:(oneN (posOf (gatT b c k) 0)).take (aloneT (gatT b c k)).groups.length=[c]:=rfl
  have h2:openG (gN (gatT b c k)) (aloneT (gatT b c k)).gates=(gatT b c k).gates:=openG_bits (gatT b c k).gates
  unfold wO worthT
  rw[h1,h2]
  rfl
 have hle:worthT (gatT b c k) k≤1:=by
  have:=worthS_le (n:=(gatT b c k).chambers.toNat) (h:=(gatT b c k).hands.toNat) (fs:=[1]) (by simp) k (gatT b c k).gates (posL (gatT b c k))
  rw[show sumF [1]=1 from rfl]at this
  exact this
 have e2:catchV (gatT b c k) (posOf (gatT b c k) 0)=1:=by
  unfold catchV
  rw[if_pos (by rw[e1];omega)]
 unfold catchR
 rw[if_pos h,if_pos (wiB_iff.2 ⟨Int.le_refl _,by show(0:Int)≤((1:Nat):Int)-1;decide⟩),e2]
end Go.Proofs.YtmgkcipcjabigaaGreatDoor

/-
  TopLed: its equation.
-/
namespace Go.Proofs.YtmgkcipcjabigaaGreatDoor
open Go.Ab
theorem led_in0(b:BTrap)(hf:FarOk b)(hp: ¬b.places=[])(hs:b.seen=[])(c:Int)(s:Stk):
 ∃cp',(cp'=Cap.full∨cp'=Cap.no)∧Run T b3l0 [(1,i64 c),(2, .ptr s.length 32 0),(5, .ptr s.length 80 0),(6,i64 0)] ([(32, .cell [i64 b.chambers, .sl .no 3 (es cDoorB b.doors), .sl .no 1 [],i64 b.look,i64 b.eats, .sl .no 1 (es cInt b.places)]),(496, .tok b.doors.length),(1496, .tok b.places.length),(80, .cell [i64 b.chambers, .sl (.own s.length 496) 3 (es cDoorB b.doors), .sl .full 1 [],i64 0,i64 1, .sl (.own s.length 1496) 1 (es cInt b.places)])]::s)=
  some (.exit 0,ldE s.length c b.doors.length ++[(38, .bool false)],ldF b (ledO b,cp')::s):=by
 have hs':es cInt b.seen=[]:=by rw[hs];rfl
 refine led_l0 b hf hp c s .full (.inl rfl) _ _ (by simp) ?_
 simp[ledK,hs']
theorem led_in1(b:BTrap)(hf:FarOk b)(hp: ¬b.places=[])(c:Int)(s:Stk):
 ∃cp',(cp'=Cap.full∨cp'=Cap.no)∧Run T b3l0 [(1,i64 c),(2, .ptr s.length 32 0),(5, .ptr s.length 80 0),(6,i64 0)] ([(32, .cell (bV b)),(496, .tok b.doors.length),(1496, .tok b.seen.length),(2496, .tok b.places.length),(80, .cell [i64 b.chambers, .sl (.own s.length 496) 3 (es cDoorB b.doors), .sl (.own s.length 1496) 1 (es cInt b.seen),i64 0,i64 1, .sl (.own s.length 2496) 1 (es cInt b.places)])]::s)=
  some (.exit 0,ldE s.length c b.doors.length ++[(38, .bool false)],ldF b (ledO b,cp')::s):=by
 refine led_l0 b hf hp c s .no (.inr rfl) _ _ (by simp) ?_
 simp[ledK]
theorem led_says {b:BTrap}(hb:BeastOk b) {c:Int}(hc:0≤c∧c≤b.chambers-1)(h:doorB (gatT b c 0)=true):
 (∃w:Int×Int,(w=(0,3)∨4<w.1∧w.1≤480∧w.2=0)∧(∀lab s,den T 12 [.agg (bV (ledO b)),i64 c] lab s=some (.tup [i64 w.1,i64 w.2],s))∧turnsR (gatT b c 0) 1=(0,3))∨
 ∃k:Nat,1≤k∧k≤4∧(∀lab s,den T 12 [.agg (bV (ledO b)),i64 c] lab s=some (.tup [i64 (k:Nat),i64 0],s))∧turnsR (gatT b c 0) 1=((k:Int),0)∧catchR (gatT b c k) 0=(1,0)∧worthR (gatT b c ((k:Int)-1))=(0,0):=by
 have ht:=doorB_iff.1 h
 have hch:(gatT b c 0).chambers=b.chambers+1:=rfl
 have h3:b.chambers≤3:=by have:=ht.ch;omega
 have hS:Small (ledO b):=⟨ledO_ok hb,h3⟩
 obtain⟨n,h1,h2⟩:=st_end hS.cos hS.c3
 have hw:=fun o hq ho lab s=>e_Way hS h1 h2 c hc o hq ho lab s
 rcases way_law hS (ledO_free b) h2 (c:=c) hc with ⟨e,hn⟩|⟨p,e,p0,p480,py,pm⟩
 ·exact .inl ⟨(0,3), .inl rfl,fun lab s=>hw none e (by simp) lab s,turns_no hb hc h fun k _=>hn k⟩
 ·have hW:=fun lab s=>hw (some p) e (fun q hq=>by cases hq;exact p480) lab s
  simp only at hW
  by_cases h4:4<p.1
  ·exact .inl ⟨(p.1,0), .inr ⟨h4,p480,rfl⟩,hW,turns_no hb hc h fun k hk=>pm k (by omega)⟩
  ·obtain⟨k,hk⟩: ∃k:Nat,p.1=k:=⟨p.1.toNat,by omega⟩
   rw[hk]at hW py pm
   rw[Int.toNat_natCast]at py
   have pm: ∀j,j<k→rB (ledO b) j c=false:=fun j hj=>pm j (by omega)
   have k1:1≤k:=by
    rcases Nat.eq_zero_or_pos k with rfl|h
    ·simp only[rB,decide_eq_true_eq]at py;omega
    ·exact h
   have g1:doorB (gatT b c k)=true:=gat_ok h ⟨by omega,by omega⟩
   have g2:doorB (gatT b c ((k:Int)-1))=true:=gat_ok h ⟨by omega,by omega⟩
   refine .inr ⟨k,k1,by omega,hW,turns_yes hb hc h (by omega) py pm,catch_one hb hc g1 py pm,?_⟩
   unfold worthR
   rw[if_pos g2]
   have e1:(gatT b c ((k:Int)-1)).turns.toNat=k-1:=by show((k:Int)-1).toNat=_;omega
   rw[e1,gat_no hb hc (pm (k-1) (by omega))]
theorem gat_short(b:BTrap)(hd:b.doors.length≤40)(c k:Int):ShortD (gatT b c k):=⟨by simp[gatT];omega,by simp[gatT]⟩
theorem e_Check03(t:DTrap)(hs:ShortD t)(lab s):den T 11 [.agg (dV t)] lab s=some (i64 (if doorB t=true then 0 else 30),s):=e_CheckR t hs lab s
theorem farOk_of {b:BTrap}(h:farB b=false):FarOk b:=by
 simp only[farB,Bool.or_eq_false_iff,decide_eq_false_iff_not]at h
 exact⟨by omega,by omega,by omega⟩
set_option maxHeartbeats 16000000 in
theorem e_TopLed_go(b:BTrap)(hfb:farB b=false)(hb:BeastOk b)(c:Int)(hc:0≤c∧c≤b.chambers-1)(lab s):den T 3 [.agg (bV b),i64 c] lab s=some (.bool true,s):=by
 have hf:=farOk_of hfb
 have hFa:=fun lab s=>e_Far b lab s
 rw[hfb]at hFa
 have hCk:=fun lab s=>e_Check06 b hf lab s
 rw[beast_iff.2 hb]at hCk
 have hIc:=fun lab s=>e_IsCham06 b hb.ch c lab s
 rw[wiB_iff.2 hc]at hIc
 have hG0:=fun lab s=>e_gated b hb.ch hf.doors c 0 lab s
 have hC3:=fun lab s=>e_Check03 (gatT b c 0) (gat_short b hf.doors c 0) lab s
 have hL:=fun lab s=>e_led lab s
 cases hd:doorB (gatT b c 0)
 ·rw[hd]at hC3
  have hlpA:=led_in0 b hf hb.ne
  have hlpB:=led_in1 b hf hb.ne
  generalize ledO b=o at*
  generalize gatT b c 0=t0 at*
  by_cases hs:b.seen=[]
  ·have hC:=fun loc s lab k0 k1=>e_Copy06_0 b hf hs hb.ne lab loc s k0 k1
   have hs':es cInt b.seen=[]:=by rw[hs];rfl
   obtain⟨cp,hcp,hlp⟩:=hlpA hs c s
   simp only[bV,hs']at hFa hCk hIc hC hG0⊢
   simp only[ldE,ldF,bV,hs',show((0:Nat):Int)=0 from rfl]at hlp
   rcases hcp with rfl|rfl
   ·rw[den_fn t3 _ _ _ rfl]
    simp only[b3]
    simp (maxSteps:=6000000) (disch:=first|omega|assumption|decide +kernel|(simp;done)|(simp;omega)|fail) [run_drawnK,orSlow_none,hFa,hCk,hIc,hC,hG0,hlp,hC3,hL]
   ·rw[den_fn t3 _ _ _ rfl]
    simp only[b3]
    simp (maxSteps:=6000000) (disch:=first|omega|assumption|decide +kernel|(simp;done)|(simp;omega)|fail) [run_drawnK,orSlow_none,hFa,hCk,hIc,hC,hG0,hlp,hC3,hL]
  ·have hC:=fun loc s lab k0 k1 k2=>e_Copy06_1 b hf hs hb.ne lab loc s k0 k1 k2
   obtain⟨cp,hcp,hlp⟩:=hlpB c s
   simp only[ldE,ldF,bV,show((0:Nat):Int)=0 from rfl]at hlp
   rcases hcp with rfl|rfl
   ·rw[den_fn t3 _ _ _ rfl]
    simp only[b3]
    simp (maxSteps:=6000000) (disch:=first|omega|assumption|decide +kernel|(simp;done)|(simp;omega)|fail) [run_drawnK,orSlow_none,hFa,hCk,hIc,hC,hG0,hlp,hC3,hL]
   ·rw[den_fn t3 _ _ _ rfl]
    simp only[b3]
    simp (maxSteps:=6000000) (disch:=first|omega|assumption|decide +kernel|(simp;done)|(simp;omega)|fail) [run_drawnK,orSlow_none,hFa,hCk,hIc,hC,hG0,hlp,hC3,hL]
 ·rw[hd]at hC3
  have hTu:=fun lab s=>e_Turns (gatT b c 0) (gat_short b hf.doors c 0) 1 lab s
  have hlpA:=led_in0 b hf hb.ne
  have hlpB:=led_in1 b hf hb.ne
  rcases led_says hb hc hd with ⟨⟨w1,w2⟩,hw,hWa,ht⟩|⟨k,k1,k4,hWa,ht,hca,hwo⟩
  ·rw[ht]at hTu
   simp only at hw hWa hTu
   generalize ledO b=o at*
   generalize gatT b c 0=t0 at*
   rcases hw with hw|⟨h4,h480,hw⟩
   ·obtain⟨rfl,rfl⟩:=Prod.mk.inj hw
    by_cases hs:b.seen=[]
    ·have hC:=fun loc s lab k0 k1=>e_Copy06_0 b hf hs hb.ne lab loc s k0 k1
     have hs':es cInt b.seen=[]:=by rw[hs];rfl
     obtain⟨cp,hcp,hlp⟩:=hlpA hs c s
     simp only[bV,hs']at hFa hCk hIc hC hG0⊢
     simp only[ldE,ldF,bV,hs',show((0:Nat):Int)=0 from rfl]at hlp
     rcases hcp with rfl|rfl
     ·rw[den_fn t3 _ _ _ rfl]
      simp only[b3]
      simp (maxSteps:=6000000) (disch:=first|omega|assumption|decide +kernel|(simp;done)|(simp;omega)|fail) [run_drawnK,orSlow_none,hFa,hCk,hIc,hC,hG0,hlp,hC3,hWa,hTu,hL]
     ·rw[den_fn t3 _ _ _ rfl]
      simp only[b3]
      simp (maxSteps:=6000000) (disch:=first|omega|assumption|decide +kernel|(simp;done)|(simp;omega)|fail) [run_drawnK,orSlow_none,hFa,hCk,hIc,hC,hG0,hlp,hC3,hWa,hTu,hL]
    ·have hC:=fun loc s lab k0 k1 k2=>e_Copy06_1 b hf hs hb.ne lab loc s k0 k1 k2
     obtain⟨cp,hcp,hlp⟩:=hlpB c s
     simp only[ldE,ldF,bV,show((0:Nat):Int)=0 from rfl]at hlp
     rcases hcp with rfl|rfl
     ·rw[den_fn t3 _ _ _ rfl]
      simp only[b3]
      simp (maxSteps:=6000000) (disch:=first|omega|assumption|decide +kernel|(simp;done)|(simp;omega)|fail) [run_drawnK,orSlow_none,hFa,hCk,hIc,hC,hG0,hlp,hC3,hWa,hTu,hL]
     ·rw[den_fn t3 _ _ _ rfl]
      simp only[b3]
      simp (maxSteps:=6000000) (disch:=first|omega|assumption|decide +kernel|(simp;done)|(simp;omega)|fail) [run_drawnK,orSlow_none,hFa,hCk,hIc,hC,hG0,hlp,hC3,hWa,hTu,hL]
   ·subst hw
    by_cases hs:b.seen=[]
    ·have hC:=fun loc s lab k0 k1=>e_Copy06_0 b hf hs hb.ne lab loc s k0 k1
     have hs':es cInt b.seen=[]:=by rw[hs];rfl
     obtain⟨cp,hcp,hlp⟩:=hlpA hs c s
     simp only[bV,hs']at hFa hCk hIc hC hG0⊢
     simp only[ldE,ldF,bV,hs',show((0:Nat):Int)=0 from rfl]at hlp
     rcases hcp with rfl|rfl
     ·rw[den_fn t3 _ _ _ rfl]
      simp only[b3]
      simp (maxSteps:=6000000) (disch:=first|omega|assumption|decide +kernel|(simp;done)|(simp;omega)|fail) [run_drawnK,orSlow_none,hFa,hCk,hIc,hC,hG0,hlp,hC3,hWa,hTu,hL,h4]
     ·rw[den_fn t3 _ _ _ rfl]
      simp only[b3]
      simp (maxSteps:=6000000) (disch:=first|omega|assumption|decide +kernel|(simp;done)|(simp;omega)|fail) [run_drawnK,orSlow_none,hFa,hCk,hIc,hC,hG0,hlp,hC3,hWa,hTu,hL,h4]
    ·have hC:=fun loc s lab k0 k1 k2=>e_Copy06_1 b hf hs hb.ne lab loc s k0 k1 k2
     obtain⟨cp,hcp,hlp⟩:=hlpB c s
     simp only[ldE,ldF,bV,show((0:Nat):Int)=0 from rfl]at hlp
     rcases hcp with rfl|rfl
     ·rw[den_fn t3 _ _ _ rfl]
      simp only[b3]
      simp (maxSteps:=6000000) (disch:=first|omega|assumption|decide +kernel|(simp;done)|(simp;omega)|fail) [run_drawnK,orSlow_none,hFa,hCk,hIc,hC,hG0,hlp,hC3,hWa,hTu,hL,h4]
     ·rw[den_fn t3 _ _ _ rfl]
      simp only[b3]
      simp (maxSteps:=6000000) (disch:=first|omega|assumption|decide +kernel|(simp;done)|(simp;omega)|fail) [run_drawnK,orSlow_none,hFa,hCk,hIc,hC,hG0,hlp,hC3,hWa,hTu,hL,h4]
  ·rw[ht]at hTu
   simp only at hTu
   have wk1:IntKind.i64.wrap ((k:Int)-1)=(k:Int)-1:=wi _ (by omega) (by omega)
   have hk4: ¬(4:Int)<k:=by omega
   have hk1: ¬(k:Int)<1:=by omega
   have hk4n: ¬4<k:=by omega
   have hk1n: ¬k=0:=by omega
   have hk1m: ¬k<1:=by omega
   have hG1:=fun lab s=>e_gated b hb.ch hf.doors c k lab s
   have hG2:=fun lab s=>e_gated b hb.ch hf.doors c ((k:Int)-1) lab s
   have hCa:=fun lab s=>e_Catch (gatT b c k) (gat_short b hf.doors c k) 0 lab s
   rw[hca]at hCa
   have hWo:=fun lab s=>e_Worth (gatT b c ((k:Int)-1)) (gat_short b hf.doors c ((k:Int)-1)) lab s
   rw[hwo]at hWo
   generalize ledO b=o at*
   generalize gatT b c 0=t0 at*
   generalize gatT b c k=t1 at*
   generalize gatT b c ((k:Int)-1)=t2 at*
   by_cases hs:b.seen=[]
   ·have hC:=fun loc s lab k0 k1=>e_Copy06_0 b hf hs hb.ne lab loc s k0 k1
    have hs':es cInt b.seen=[]:=by rw[hs];rfl
    obtain⟨cp,hcp,hlp⟩:=hlpA hs c s
    simp only[bV,hs']at hFa hCk hIc hC hG0 hG1 hG2⊢
    simp only[ldE,ldF,bV,hs',show((0:Nat):Int)=0 from rfl]at hlp
    rcases hcp with rfl|rfl
    ·rw[den_fn t3 _ _ _ rfl]
     simp only[b3]
     simp (maxSteps:=6000000) (disch:=first|omega|assumption|decide +kernel|(simp;done)|(simp;omega)|fail) [run_drawnK,orSlow_none,hFa,hCk,hIc,hC,hG0,hG1,hG2,hlp,hC3,hWa,hTu,hCa,hWo,hL,wk1,hk4,hk1,hk4n,hk1n,hk1m]
    ·rw[den_fn t3 _ _ _ rfl]
     simp only[b3]
     simp (maxSteps:=6000000) (disch:=first|omega|assumption|decide +kernel|(simp;done)|(simp;omega)|fail) [run_drawnK,orSlow_none,hFa,hCk,hIc,hC,hG0,hG1,hG2,hlp,hC3,hWa,hTu,hCa,hWo,hL,wk1,hk4,hk1,hk4n,hk1n,hk1m]
   ·have hC:=fun loc s lab k0 k1 k2=>e_Copy06_1 b hf hs hb.ne lab loc s k0 k1 k2
    obtain⟨cp,hcp,hlp⟩:=hlpB c s
    simp only[ldE,ldF,bV,show((0:Nat):Int)=0 from rfl]at hlp
    rcases hcp with rfl|rfl
    ·rw[den_fn t3 _ _ _ rfl]
     simp only[b3]
     simp (maxSteps:=6000000) (disch:=first|omega|assumption|decide +kernel|(simp;done)|(simp;omega)|fail) [run_drawnK,orSlow_none,hFa,hCk,hIc,hC,hG0,hG1,hG2,hlp,hC3,hWa,hTu,hCa,hWo,hL,wk1,hk4,hk1,hk4n,hk1n,hk1m]
    ·rw[den_fn t3 _ _ _ rfl]
     simp only[b3]
     simp (maxSteps:=6000000) (disch:=first|omega|assumption|decide +kernel|(simp;done)|(simp;omega)|fail) [run_drawnK,orSlow_none,hFa,hCk,hIc,hC,hG0,hG1,hG2,hlp,hC3,hWa,hTu,hCa,hWo,hL,wk1,hk4,hk1,hk4n,hk1n,hk1m]
end Go.Proofs.YtmgkcipcjabigaaGreatDoor

/-
  TopLed: its equation, for every trap and chamber.
-/
namespace Go.Proofs.YtmgkcipcjabigaaGreatDoor
open Go.Ab
set_option maxHeartbeats 4000000 in
theorem e_TopLed(b:BTrap)(c:Int)(lab s):den T 3 [.agg (bV b),i64 c] lab s=some (.bool true,s):=by
 have hFa:=fun lab s=>e_Far b lab s
 have hL:=fun lab s=>e_led lab s
 cases hfb:farB b
 rotate_left
 ·rw[hfb]at hFa
  rw[den_fn t3 _ _ _ rfl]
  simp only[b3]
  simp (maxSteps:=6000000) (disch:=first|omega|assumption|decide +kernel|(simp;done)|(simp;omega)|fail) [run_drawnK,orSlow_none,hFa,hL]
 have hf:=farOk_of hfb
 rw[hfb]at hFa
 have hCk:=fun lab s=>e_Check06 b hf lab s
 cases hb:beastB b
 ·rw[hb]at hCk
  rw[den_fn t3 _ _ _ rfl]
  simp only[b3]
  simp (maxSteps:=6000000) (disch:=first|omega|assumption|decide +kernel|(simp;done)|(simp;omega)|fail) [run_drawnK,orSlow_none,hFa,hCk,hL]
 have hb':=beast_iff.1 hb
 cases hw:wiB c 0 (b.chambers-1)
 rotate_left
 ·exact e_TopLed_go b hfb hb' c (wiB_iff.1 hw) lab s
 rw[hb]at hCk
 have hIc:=fun lab s=>e_IsCham06 b hb'.ch c lab s
 rw[hw]at hIc
 rw[den_fn t3 _ _ _ rfl]
 simp only[b3]
 simp (maxSteps:=6000000) (disch:=first|omega|assumption|decide +kernel|(simp;done)|(simp;omega)|fail) [run_drawnK,orSlow_none,hFa,hCk,hIc,hL]
end Go.Proofs.YtmgkcipcjabigaaGreatDoor

/-
  What the arguments of the laws of doors read as.
-/
namespace Go.Proofs.YtmgkcipcjabigaaGreatDoor
open Go.Ab
set_option maxRecDepth 100000
theorem cells3:Tryz.prog.cellsOf 3=1:=by kernel_rfl
variable {B : TypeId → Nat → Prop} {n : Nat} {vs : List V}
theorem fit_int(h:Fit Tryz.prog B (n+1) 3 vs): ∃x,vs=[i64 x]:=by
 simp only[Fit,Tryz.underlying3]at h
 exact h
theorem es_all {α:Type} {f:α→List V}(l:List (List V))(h: ∀x∈l,∃y,x=f y): ∃l':List α,l=es f l':=by
 obtain⟨l',h1,_⟩:=es_of (Q:=fun _=>True) l fun x hx=>by obtain⟨y,hy⟩:=h x hx;exact⟨y,hy,trivial⟩
 exact⟨l',h1⟩
theorem fit_ints(h:Fit Tryz.prog B (n+2) 23 vs): ∃l:List Int,vs=[.sl .no 1 (es cInt l)]∧B 3 l.length:=by
 rw[Fit,Tryz.underlying23]at h
 simp only at h
 obtain⟨l,rfl,hb,h⟩:=h
 obtain⟨l',rfl⟩:=es_all (f:=cInt) l fun x hx=>by obtain⟨y,hy⟩:=fit_int (h x hx);exact⟨y,hy⟩
 rw[cells3]
 exact⟨l',rfl,by simpa using hb⟩
def Reach(e:TypeId)(k:Nat):Prop:=k≤maxLen∧k*Tryz.prog.bytesOf e≤reachBytes
end Go.Proofs.YtmgkcipcjabigaaGreatDoor

/-
  What the arguments of TopLed read as.
-/
namespace Go.Proofs.YtmgkcipcjabigaaGreatDoor
open Go.Ab
set_option maxRecDepth 100000
theorem cells45:Tryz.prog.cellsOf 45=3:=by kernel_rfl
variable {n : Nat} {vs : List V}
theorem fit_bdoor {B:TypeId→Nat→Prop}(h:Fit Tryz.prog B (n+2) 45 vs): ∃g:BDoor,vs=cDoorB g:=by
 rw[Fit,Tryz.underlying45]at h
 simp only[FitF]at h
 obtain⟨_,_,rfl,h0,_,_,rfl,h1,_,_,rfl,h2,rfl⟩:=h
 obtain⟨a,rfl⟩:=fit_int h0
 obtain⟨b,rfl⟩:=fit_int h1
 obtain⟨c,rfl⟩:=fit_int h2
 exact⟨⟨a,b,c⟩,rfl⟩
theorem fit_bdoors {B:TypeId→Nat→Prop}(h:Fit Tryz.prog B (n+3) 22 vs): ∃l:List BDoor,vs=[.sl .no 3 (es cDoorB l)]:=by
 rw[Fit,Tryz.underlying22]at h
 simp only at h
 obtain⟨l,rfl,hb,h⟩:=h
 obtain⟨l',rfl⟩:=es_all (f:=cDoorB) l fun x hx=>fit_bdoor (h x hx)
 rw[cells45]
 exact⟨l',rfl⟩
theorem fit_beast(h:Fit Tryz.prog Reach (n+4) 25 vs): ∃b:BTrap,vs=bV b:=by
 rw[Fit,Tryz.underlying25]at h
 simp only[FitF]at h
 obtain⟨_,_,rfl,h0,_,_,rfl,h1,_,_,rfl,h2,_,_,rfl,h3,_,_,rfl,h4,_,_,rfl,h5,rfl⟩:=h
 obtain⟨a,rfl⟩:=fit_int h0
 obtain⟨d,rfl⟩:=fit_bdoors h1
 obtain⟨e,rfl,_⟩:=fit_ints h2
 obtain⟨f,rfl⟩:=fit_int h3
 obtain⟨g,rfl⟩:=fit_int h4
 obtain⟨i,rfl,_⟩:=fit_ints h5
 exact⟨⟨a,d,e,f,g,i⟩,rfl⟩
end Go.Proofs.YtmgkcipcjabigaaGreatDoor

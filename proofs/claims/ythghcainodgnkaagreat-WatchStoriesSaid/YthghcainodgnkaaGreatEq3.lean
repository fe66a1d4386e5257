/-
  Watch: the reference's settle: a pass (not built yet).
-/
import Derived.Test.YthghcainodgnkaaGreatEq2
import Derived.Test.YthghcainodgnkaaGreatEq1
set_option linter.unusedSimpArgs false
set_option linter.unusedVariables false
namespace Go.Proofs.YthghcainodgnkaaGreat
open Go.Ab
section
variable (t : CTrap) (h : TrapOk t) (hop : ∀ l, l ∈ t.opn → l.length < 4611686018427387904) (d l b : Nat) (s : Stk) (hd : d < s.length) (hl : ∀ i, i < t.T → l ≠ b + 1000 * i) (hs : sget s d l = some (.arr 1 (ptrM d b (t.C + 1) t.T)))
include h hop hd hl hs
set_option maxHeartbeats 4000000 in
theorem e_stl_l1(a:PS)(M:Int)(hM:M≤800000)(hI:InvS t.T t.C M a.S):
 ∃c:Nat,Run T b74l1 [(1, .asl d l 1 t.T 0 t.T),(2, .ptr s.length 32 0),(5, .bool a.ch),(6,i64 0)] ([(32, .cell (vT t))]::putM s d b a.S)=
  if (runI ((List.range t.T).flatMap (itemsI t)) a).2=true then some (.exit 2,[(1, .asl d l 1 t.T 0 t.T),(2, .ptr s.length 32 0),(5, .bool (runI ((List.range t.T).flatMap (itemsI t)) a).1.ch),(6,i64 t.T),(17, .bool false)],[(32, .cell (vT t))]::putM s d b (runI ((List.range t.T).flatMap (itemsI t)) a).1.S)
  else some (.ret,[(4, .bool false)],[(32, .cell (vT t))]::putM s d b (runI ((List.range t.T).flatMap (itemsI t)) a).1.S):=by
 have hcc:=h.cc
 have htt:=h.tt
 have e1:t.C=t.chambers.toNat:=rfl
 have e2:t.T=t.times.toNat:=rfl
 have hC4:t.C≤4:=by omega
 have hd2: ¬d=s.length:=by omega
 have key:=loop_list_e (T:=T) (live:=[1,2,5,6]) (keep:=[32,160,1600]) (b:=d74l1) (γ:=Nat) (List.range t.T) (fun k a=>InvS t.T t.C (M+480*k) a.S) (fun k a=>[(1, .asl d l 1 t.T 0 t.T),(2, .ptr s.length 32 0),(5, .bool a.ch),(6,i64 (k:Nat))]) (fun _ a=>[(32, .cell (vT t))]::putM s d b a.S)
  (fun a i=>runI (itemsI t i) a) (fun(_:Nat) a=>(.ret,[(4, .bool false)],[(32, .cell (vT t))]::putM s d b a.S))
  (fun a=>(.exit 2,[(1, .asl d l 1 t.T 0 t.T),(2, .ptr s.length 32 0),(5, .bool a.ch),(6,i64 t.T),(17, .bool false)],[(32, .cell (vT t))]::putM s d b a.S)) (by simp) (by simp) ?_ ?_ a (by simpa using hI) [(1, .asl d l 1 t.T 0 t.T),(2, .ptr s.length 32 0),(5, .bool a.ch),(6,i64 0)] ([(32, .cell (vT t))]::putM s d b a.S) (by simp[hd2]) (by simp[hd2])
 ·rw[foldB_run]at key
  exact key
 ·intro k a hk hI
  simp only[List.length_range]at hk
  simp only[List.getElem_range]
  have hk2:(k:Int)<t.times:=by omega
  obtain⟨c,hr⟩:=e_stl_l2 t h hop d l b s hd hl hs k hk a _ (by omega) hI
  have hin:=InvS.run (itemsI t k) _ a (fun x hx=>(items_ok h).ok x (by unfold items;exact List.mem_append_left _ (List.mem_flatMap.2 ⟨k,by simpa using hk,hx⟩))) hI
  have hlen:=itemsI_length t k hC4
  have hin2:InvS t.T t.C (M+480*((k+1:Nat):Int)) (runI (itemsI t k) a).1.S:=by refine hin.weaken ?_;omega
  clear hin hI hs hl
  generalize runI (itemsI t k) a=y at*
  obtain⟨y1,y2⟩:=y
  generalize t.C=C at*
  generalize t.T=n at*
  cases y2
  ·refine⟨fun hh=>by simp at hh,fun _=>⟨0,?_⟩⟩
   dsimp only at*
   rw[if_neg (by simp)]at hr
   simp (maxSteps:=1000000) (disch:=first|omega|assumption|decide +kernel|(simp;done)|(simp;omega)|fail) [hd2,hk2,hr]
  ·refine⟨fun _=>⟨?_,hin2⟩,fun hh=>by simp at hh⟩
   dsimp only at*
   rw[if_pos rfl]at hr
   simp (maxSteps:=1000000) (disch:=first|omega|assumption|decide +kernel|(simp;done)|(simp;omega)|fail) [hd2,hk2,hr,wk k (by omega)]
 ·intro a hi
  have hz:((t.T:Nat):Int)=t.times:=by omega
  simp only[List.length_range,hz]
  simp
omit hop in
set_option maxHeartbeats 4000000 in
theorem e_stl_l3(hwl:t.words.length<4611686018427387904)(a:PS)(M:Int)(hM:M≤800000)(hI:InvS t.T t.C M a.S):
 Run T b74l3 [(1, .asl d l 1 t.T 0 t.T),(2, .ptr s.length 32 0),(5, .bool a.ch),(9,i64 0)] ([(32, .cell (vT t))]::putM s d b a.S)=
  some (.exit 6,[(1, .asl d l 1 t.T 0 t.T),(2, .ptr s.length 32 0),(5, .bool (runI (t.words.map itemW) a).1.ch),(9,i64 t.words.length),(78, .bool false)],[(32, .cell (vT t))]::putM s d b (runI (t.words.map itemW) a).1.S):=by
 have hcc:=h.cc
 have htt:=h.tt
 have hw8:=h.words
 have e1:t.C=t.chambers.toNat:=rfl
 have e2:t.T=t.times.toNat:=rfl
 have hC4:t.C≤4:=by omega
 have hT5:t.T≤5:=by omega
 have hd2: ¬d=s.length:=by omega
 have hrun: ∀(ws:List CWord) (a:PS),(runI (ws.map itemW) a).1=ws.foldl (fun a w=>(stepI a (itemW w)).1) a:=fun ws=>by
  induction ws with
  |nil=>intro a;rfl
  |cons w ws ih=>intro a;rw[List.map_cons,List.foldl_cons,←ih];rfl
 rw[hrun]
 have key:=loop_fold (T:=T) (live:=[1,2,5,9]) (keep:=[32,784,992,1120]) (b:=d74l3) t.words (fun k a=>InvS t.T t.C (M+40*(k:Nat)) a.S) (fun a w=>(stepI a (itemW w)).1) (fun k a=>[(1, .asl d l 1 t.T 0 t.T),(2, .ptr s.length 32 0),(5, .bool a.ch),(9,i64 (k:Nat))]) (fun _ a=>[(32, .cell (vT t))]::putM s d b a.S)
  (fun a=>(.exit 6,[(1, .asl d l 1 t.T 0 t.T),(2, .ptr s.length 32 0),(5, .bool a.ch),(9,i64 t.words.length),(78, .bool false)],[(32, .cell (vT t))]::putM s d b a.S)) (by simp) ?_ ?_ ?_ a (by simpa using hI) [(1, .asl d l 1 t.T 0 t.T),(2, .ptr s.length 32 0),(5, .bool a.ch),(9,i64 0)] ([(32, .cell (vT t))]::putM s d b a.S) (by simp[hd2]) (by simp[hd2])
 ·exact key
 ·intro k a hk hI
  have hk2:(k:Int)<t.words.length:=by omega
  have hok:Dif.Ok t.T t.C ⟨t.words[k].time.toNat,t.words[k].chamber.toNat,t.words[k].time.toNat,t.words[k].chamber.toNat+1,t.words[k].lo,t.words[k].hi⟩:=(items_ok h).ok (itemW t.words[k]) (items_mem.2 (.inr ⟨_,List.getElem_mem hk,rfl⟩))
  have hw:=wordOk_iff.1 (h.word _ (List.getElem_mem hk))
  have hcell:cWord t.words[k]=[i64 t.words[k].time,i64 t.words[k].chamber,i64 t.words[k].lo,i64 t.words[k].hi]:=rfl
  have hcell2:(es cWord t.words)[k]? =some [i64 t.words[k].time,i64 t.words[k].chamber,i64 t.words[k].lo,i64 t.words[k].hi]:=by simp[es,hk]
  generalize t.words[k]=w at*
  have hd1:=fun(F:Ab.Loc) lab=>e_differ' t hC4 hT5 a.S hI (by omega) w.time.toNat w.chamber.toNat w.time.toNat (w.chamber.toNat+1) w.lo w.hi hok d l b F s hd hl hs w.time w.chamber w.time (w.chamber+1) (by omega) (by omega) (by omega) (by omega) lab
  have ef:(stepI a (itemW w)).1=⟨difS a.S ⟨w.time.toNat,w.chamber.toNat,w.time.toNat,w.chamber.toNat+1,w.lo,w.hi⟩,difC a.S ⟨w.time.toNat,w.chamber.toNat,w.time.toNat,w.chamber.toNat+1,w.lo,w.hi⟩||a.ch⟩:=rfl
  rw[ef]
  have w1:IntKind.i64.wrap (w.chamber+1)=w.chamber+1:=wi _ (by omega) (by omega)
  have w0:k<t.words.length:=hk
  clear hI hok ef hs hl
  obtain⟨wt,wc,wlo,whi⟩:=w
  dsimp only at*
  generalize difC a.S ⟨wt.toNat,wc.toNat,wt.toNat,wc.toNat+1,wlo,whi⟩=c1 at*
  generalize difS a.S ⟨wt.toNat,wc.toNat,wt.toNat,wc.toNat+1,wlo,whi⟩=S1 at*
  generalize a.S=S at*
  generalize t.C=C at*
  generalize t.T=n at*
  generalize hWS:t.words=ws at*
  obtain⟨_,hc3⟩:=List.getElem?_eq_some_iff.1 hcell2
  cases c1<;>simp (maxSteps:=1000000) (disch:=first|omega|assumption|decide +kernel|(simp;done)|(simp;omega)|fail) [run_drawnK,orSlow_none,hd2,hk2,hc3,hcell,hWS,hd1,w1,wk k (by omega)]
 ·intro k a hk hI
  have hok:=(items_ok h).ok (itemW t.words[k]) (items_mem.2 (.inr ⟨_,List.getElem_mem hk,rfl⟩))
  have:=InvS.dif (k:=⟨t.words[k].time.toNat,t.words[k].chamber.toNat,t.words[k].time.toNat,t.words[k].chamber.toNat+1,t.words[k].lo,t.words[k].hi⟩) hI hok
  refine InvS.weaken this ?_
  omega
 ·intro a hi
  simp
end
end Go.Proofs.YthghcainodgnkaaGreat

/-
  Watch: the reference's settle: is anything empty at the end.
-/
namespace Go.Proofs.YthghcainodgnkaaGreat
open Go.Ab
def chkE:AC:=(.seq ( .region true (spl [⟨(some 116), .mv (.t 1),none,[],[]⟩,⟨(some 117), .mv (.t 11),none,[],[]⟩,⟨(some 118), .idxs 1 (.t 116) (.t 117),none,[0,1],[]⟩,⟨(some 119), .load none (.t 118),none,[2,0,1],[]⟩,⟨(some 120), .mv (.t 12),none,[],[]⟩,⟨(some 121), .idxs 2 (.t 119) (.t 120),none,[3,4,2,0,1],[]⟩,⟨(some 122), .faddr 0 (.t 121),none,[5,3,4,2,0,1],[]⟩,⟨(some 123), .load none (.t 122),none,[6,5,3,4,2,0,1],[]⟩,⟨(some 124), .mv (.t 1),none,[],[]⟩,⟨(some 125), .mv (.t 11),none,[],[]⟩,⟨(some 126), .idxs 1 (.t 124) (.t 125),none,[8,9],[]⟩,⟨(some 127), .load none (.t 126),none,[10,8,9],[]⟩,⟨(some 128), .mv (.t 12),none,[],[]⟩,⟨(some 129), .idxs 2 (.t 127) (.t 128),none,[11,12,10,8,9],[]⟩,⟨(some 130), .faddr 1 (.t 129),none,[13,11,12,10,8,9],[]⟩,⟨(some 131), .load none (.t 130),none,[14,13,11,12,10,8,9],[]⟩] [⟨(some 132), .bin .gtr (.t 123) (.t 131),none,[7,15,6,5,3,4,2,0,1,14,13,11,12,10,8,9],[]⟩]) [1,2,11,12,132]) ( .cond (.t 132) ( .seq ( .region false [⟨(some 4), .mv (.c (.bool false)),none,[],[]⟩] [4]) ( .ret)) ( .skip)))
theorem d_stl_l5:d74l5= .seq (.seq ( .region false [⟨(some 110), .mv (.t 12),none,[],[]⟩,⟨(some 111), .faddr 0 (.t 2),none,[],[]⟩,⟨(some 112), .load none (.t 111),none,[],[]⟩,⟨(some 113), .bin .leq (.t 110) (.t 112),none,[],[]⟩] [1,2,11,12,113]) ( .cond (.t 113) ( .skip) ( .exit 10))) (.seq (.block 11 chkE) (.region false [⟨(some 114), .mv (.t 12),none,[],[]⟩,⟨(some 115), .bin .add (.t 114) (.c (i64 1)),none,[],[]⟩,⟨(some 12), .mv (.t 115),none,[],[]⟩] [1,2,11,12])):=rfl
section
variable (t : CTrap) (C n : Nat) (d l b : Nat) (s : Stk) (S : CMat) (hd2 : ¬ d = s.length) (g0 : sget (putM s d b S) d l = some (.arr 1 (ptrM d b (C + 1) n))) (i k : Nat) (hi0 : i < n) (hk : k < C + 1) (L : List (List V)) (g1 : sget (putM s d b S) d (b + 1000 * i) = some (.arr 2 L)) (n1 : L.length = C + 1) (x : CSp) (q1 : L[k]? = some [i64 x.lo, i64 x.hi])
include hd2 g0 hi0 hk g1 n1 q1
set_option maxHeartbeats 2000000 in
theorem e_chk_bad5(hx:x.hi<x.lo):Run T chkE [(1, .asl d l 1 n 0 n),(2, .ptr s.length 32 0),(11,i64 i),(12,i64 k),(113, .bool true)] ([(32, .cell (vT t))]::putM s d b S)=some (.ret,[(4, .bool false)],[(32, .cell (vT t))]::putM s d b S):=by
 have hi2:(i:Int)<n:=by omega
 have hk3:(k:Int)<(C:Int)+1:=by omega
 obtain⟨_,q1⟩:=List.getElem?_eq_some_iff.1 q1
 unfold chkE
 simp (maxSteps:=1000000) (disch:=first|omega|assumption|decide +kernel|(simp;done)|(simp;omega)|fail) [run_drawnK,hd2,hi0,hk,hk3,g0,g1,q1,n1,hx]
set_option maxHeartbeats 2000000 in
theorem e_chk_ok5(hx: ¬x.hi<x.lo):Run T chkE [(1, .asl d l 1 n 0 n),(2, .ptr s.length 32 0),(11,i64 i),(12,i64 k),(113, .bool true)] ([(32, .cell (vT t))]::putM s d b S)=some (.normal,[(1, .asl d l 1 n 0 n),(2, .ptr s.length 32 0),(11,i64 i),(12,i64 k),(132, .bool false)],[(32, .cell (vT t))]::putM s d b S):=by
 have hi2:(i:Int)<n:=by omega
 have hk3:(k:Int)<(C:Int)+1:=by omega
 obtain⟨_,q1⟩:=List.getElem?_eq_some_iff.1 q1
 unfold chkE
 simp (maxSteps:=1000000) (disch:=first|omega|assumption|decide +kernel|(simp;done)|(simp;omega)|fail) [run_drawnK,hd2,hi0,hk,hk3,g0,g1,q1,n1,hx]
end
section
variable (t : CTrap) (h : TrapOk t) (d l b : Nat) (s : Stk) (S : CMat) (hS : Shape t.T t.C S) (hd : d < s.length) (hl : ∀ i, i < t.T → l ≠ b + 1000 * i) (hs : sget s d l = some (.arr 1 (ptrM d b (t.C + 1) t.T)))
include h hS hd hl hs
def okP(S:CMat)(i c:Nat):Bool:=decide ((atS S i c).lo≤(atS S i c).hi)
set_option maxHeartbeats 2000000 in
theorem e_stl_l5(i:Nat)(hi0:i<t.T):
 Run T b74l5 [(1, .asl d l 1 t.T 0 t.T),(2, .ptr s.length 32 0),(11,i64 i),(12,i64 0)] ([(32, .cell (vT t))]::putM s d b S)=
  if allB (okP S i) (List.range (t.C+1))=true then some (.exit 10,[(1, .asl d l 1 t.T 0 t.T),(2, .ptr s.length 32 0),(11,i64 i),(12,i64 ((t.C:Int)+1)),(113, .bool false)],[(32, .cell (vT t))]::putM s d b S)
  else some (.ret,[(4, .bool false)],[(32, .cell (vT t))]::putM s d b S):=by
 have hcc:=h.cc
 have e1:t.C=t.chambers.toNat:=rfl
 have hd2: ¬d=s.length:=by omega
 have g0:sget (putM s d b S) d l=some (.arr 1 (ptrM d b (t.C+1) t.T)):=by rw[sget_putM_no S b l fun i hi=>hl i (by rw[hS.len]at hi;exact hi)];exact hs
 have g1:=rowV_sget hS (s:=s) (b:=b) hd hi0
 have n1:=rowV_len hS hi0
 refine loop_all (T:=T) (b:=d74l5) (List.range (t.C+1)) (okP S i) (fun k=>[(1, .asl d l 1 t.T 0 t.T),(2, .ptr s.length 32 0),(11,i64 i),(12,i64 (k:Nat))]) (fun _=>[(32, .cell (vT t))]::putM s d b S) _ _ (by simp) (by simp) ?_ ?_ _ _ (by simp[hd2]) (by simp[hd2])
 ·intro k hk
  simp only[List.length_range]at hk
  simp only[List.getElem_range]
  rw[d_stl_l5]
  have hk2:(k:Int)≤t.chambers:=by omega
  have q1:=rowV_get hS hi0 (show k≤t.C by omega)
  have hbad:=e_chk_bad5 t t.C t.T d l b s S hd2 g0 i k hi0 hk _ g1 n1 _ q1
  have hgood:=e_chk_ok5 t t.C t.T d l b s S hd2 g0 i k hi0 hk _ g1 n1 _ q1
  have hk9:k<1000:=by omega
  clear g0 g1 q1 n1
  unfold okP
  generalize atS S i k=x at*
  by_cases hx:x.hi<x.lo
  ·have hx2: ¬x.lo≤x.hi:=by omega
   have hbad:=hbad hx
   clear hgood hs hS
   generalize t.T=n at*
   simp (disch:=first|omega|assumption|decide +kernel|(simp;done)|(simp;omega)|fail) [hd2,hk2,hbad,hx2]
  ·have hx2:x.lo≤x.hi:=by omega
   have hgood:=hgood hx
   clear hbad hs hS
   generalize t.T=n at*
   simp (disch:=first|omega|assumption|decide +kernel|(simp;done)|(simp;omega)|fail) [hd2,hk2,hgood,hx2,wk k (by omega)]
 ·have hz: ¬((t.C:Int)+1)≤t.chambers:=by omega
  simp only[List.length_range]
  have hz2:((t.C+1:Nat):Int)=(t.C:Int)+1:=rfl
  rw[hz2]
  generalize t.T=n at*
  generalize (t.C:Int)+1=m at*
  simp[hd2,hz]
set_option maxHeartbeats 2000000 in
theorem e_stl_l4:
 Run T b74l4 [(1, .asl d l 1 t.T 0 t.T),(2, .ptr s.length 32 0),(11,i64 0)] ([(32, .cell (vT t))]::putM s d b S)=
  if okS t.T t.C S=true then some (.exit 8,[(1, .asl d l 1 t.T 0 t.T),(2, .ptr s.length 32 0),(11,i64 t.T),(107, .bool false)],[(32, .cell (vT t))]::putM s d b S)
  else some (.ret,[(4, .bool false)],[(32, .cell (vT t))]::putM s d b S):=by
 have htt:=h.tt
 have hd2: ¬d=s.length:=by omega
 have e2:t.T=t.times.toNat:=rfl
 have he:okS t.T t.C S=allB (fun i=>allB (okP S i) (List.range (t.C+1))) (List.range t.T):=rfl
 rw[he]
 refine loop_all (T:=T) (b:=d74l4) (List.range t.T) (fun i=>allB (okP S i) (List.range (t.C+1))) (fun k=>[(1, .asl d l 1 t.T 0 t.T),(2, .ptr s.length 32 0),(11,i64 (k:Nat))]) (fun _=>[(32, .cell (vT t))]::putM s d b S) _ _ (by simp) (by simp) ?_ ?_ _ _ (by simp[hd2]) (by simp[hd2])
 ·intro k hk
  simp only[List.length_range]at hk
  simp only[List.getElem_range]
  have hk2:(k:Int)<t.times:=by omega
  have hr:=e_stl_l5 t h d l b s S hS hd hl hs k hk
  have hk9:k<1000:=by omega
  clear hs hS
  generalize allB (okP S k) (List.range (t.C+1))=x at*
  generalize (t.C:Int)+1=m at*
  generalize t.T=n at*
  cases x
  ·rw[if_neg (by simp)]at hr
   simp (disch:=first|omega|assumption|decide +kernel|(simp;done)|(simp;omega)|fail) [hd2,hk2,hr]
  ·rw[if_pos rfl]at hr
   simp (disch:=first|omega|assumption|decide +kernel|(simp;done)|(simp;omega)|fail) [hd2,hk2,hr,wk k (by omega)]
 ·have hz:((t.T:Nat):Int)=t.times:=by omega
  simp only[List.length_range,hz]
  simp
end
end Go.Proofs.YthghcainodgnkaaGreat

/-
  Watch: the reference's settle, whole.
-/
namespace Go.Proofs.YthghcainodgnkaaGreat
open Go.Ab
def passF(l:List Item):Nat→CMat→Bool×CMat
 |0,S=>(false,S)
 |n+1,S=>if (runI l ⟨S,false⟩).2=true then(if (runI l ⟨S,false⟩).1.ch=true then passF l n (runI l ⟨S,false⟩).1.S else(true,(runI l ⟨S,false⟩).1.S))else(false,(runI l ⟨S,false⟩).1.S)
theorem passF_succ(l:List Item)(n:Nat)(S:CMat):passF l (n+1) S=if (runI l ⟨S,false⟩).2=true then(if (runI l ⟨S,false⟩).1.ch=true then passF l n (runI l ⟨S,false⟩).1.S else(true,(runI l ⟨S,false⟩).1.S))else(false,(runI l ⟨S,false⟩).1.S):=rfl
theorem settleF_succ(T C:Nat)(l:List Item)(n:Nat)(S:CMat):settleF T C l (n+1) S=if (runI l ⟨S,false⟩).2=true then(if (runI l ⟨S,false⟩).1.ch=true then settleF T C l n (runI l ⟨S,false⟩).1.S else(okS T C (runI l ⟨S,false⟩).1.S,(runI l ⟨S,false⟩).1.S))else(false,(runI l ⟨S,false⟩).1.S):=rfl
theorem settleF_pass(T C:Nat)(l:List Item): ∀(n:Nat) (S:CMat),settleF T C l n S=if (passF l n S).1=true then(okS T C (passF l n S).2,(passF l n S).2)else(false,(passF l n S).2)
 |0,S=>by simp[settleF,passF]
 |n+1,S=>by
   have ih:=settleF_pass T C l n (runI l ⟨S,false⟩).1.S
   rw[settleF_succ,passF_succ]
   by_cases h1:(runI l ⟨S,false⟩).2=true
   ·rw[if_pos h1,if_pos h1]
    by_cases h2:(runI l ⟨S,false⟩).1.ch=true
    ·rw[if_pos h2,if_pos h2,ih]
    ·rw[if_neg h2,if_neg h2];simp
   ·rw[if_neg h1,if_neg h1];simp
section
variable (t : CTrap) (h : TrapOk t) (hop : ∀ l, l ∈ t.opn → l.length < 4611686018427387904) (d l b : Nat) (s : Stk) (hd : d < s.length) (hl : ∀ i, i < t.T → l ≠ b + 1000 * i) (hs : sget s d l = some (.arr 1 (ptrM d b (t.C + 1) t.T)))
include h hop hd hl hs
set_option maxHeartbeats 2000000 in
theorem e_stl_round(S:CMat)(hI:InvS t.T t.C 3000 S):
 gcN [1,2,5] [32] (Run T d74l0 [(1, .asl d l 1 t.T 0 t.T),(2, .ptr s.length 32 0),(5, .bool true)] ([(32, .cell (vT t))]::putM s d b S))=
  if (runI (items t) ⟨S,false⟩).2=true then some (.normal,[(1, .asl d l 1 t.T 0 t.T),(2, .ptr s.length 32 0),(5, .bool (runI (items t) ⟨S,false⟩).1.ch)],[(32, .cell (vT t))]::putM s d b (runI (items t) ⟨S,false⟩).1.S)
  else some (.ret,[(4, .bool false)],[(32, .cell (vT t))]::putM s d b (runI (items t) ⟨S,false⟩).1.S):=by
 have hcc:=h.cc
 have htt:=h.tt
 have e1:t.C=t.chambers.toNat:=rfl
 have e2:t.T=t.times.toNat:=rfl
 have hd2: ¬d=s.length:=by omega
 obtain⟨c,h1⟩:=e_stl_l1 t h hop d l b s hd hl hs ⟨S,false⟩ 3000 (by omega) hI
 have happ:=runI_append ((List.range t.T).flatMap (itemsI t)) (t.words.map itemW) ⟨S,false⟩
 rw[show(List.range t.T).flatMap (itemsI t) ++t.words.map itemW=items t from rfl]at happ
 have hin:=InvS.run ((List.range t.T).flatMap (itemsI t)) 3000 ⟨S,false⟩ (fun x hx=>(items_ok h).ok x (List.mem_append_left _ hx)) hI
 have hlen:(((List.range t.T).flatMap (itemsI t)).length:Int)≤69:=by
  have:=items_length (t:=t) (by omega) (by omega) h.words
  have e:(items t).length=((List.range t.T).flatMap (itemsI t)).length+(t.words.map itemW).length:=by rw[←List.length_append];rfl
  omega
 generalize runI ((List.range t.T).flatMap (itemsI t)) ⟨S,false⟩=y at*
 obtain⟨y1,y2⟩:=y
 dsimp only at*
 have h3:=e_stl_l3 t h d l b s hd hl hs (by have:=h.words;omega) y1 _ (by omega) hin
 rw[happ]
 clear happ hin hlen
 have hw:(runI (t.words.map itemW) y1).2=true:=by
  have: ∀(ws:List CWord) (a:PS),(runI (ws.map itemW) a).2=true:=fun ws=>by
   induction ws with
   |nil=>intro a;rfl
   |cons w ws ih=>intro a;rw[List.map_cons];exact ih _
  exact this _ _
 generalize runI (t.words.map itemW) y1=z at*
 obtain⟨z1,z2⟩:=z
 dsimp only at*
 subst hw
 clear hI hs hl
 generalize t.C=C at*
 generalize t.T=n at*
 cases y2
 ·rw[if_neg (by simp)]at h1
  simp (disch:=first|omega|assumption|decide +kernel|(simp;done)|(simp;omega)|fail) [hd2,h1]
 ·rw[if_pos rfl]at h1
  simp (disch:=first|omega|assumption|decide +kernel|(simp;done)|(simp;omega)|fail) [hd2,h1,h3]
set_option maxHeartbeats 2000000 in
theorem e_stl_l0: ∀(n:Nat) (S:CMat),InvS t.T t.C 3000 S→muS S+muK t.T t.C+1<n→0<n→ ∀e s',gcEnv [1,2,5] [32] e s'=[(1, .asl d l 1 t.T 0 t.T),(2, .ptr s.length 32 0),(5, .bool true)]→gcStk [32] s'=[(32, .cell (vT t))]::putM s d b S→
 Run T b74l0 e s'=if (passF (items t) n S).1=true then some (.exit 0,[(1, .asl d l 1 t.T 0 t.T),(2, .ptr s.length 32 0),(13, .bool false)],[(32, .cell (vT t))]::putM s d b (passF (items t) n S).2)
  else some (.ret,[(4, .bool false)],[(32, .cell (vT t))]::putM s d b (passF (items t) n S).2)
 |0,_,_,_,h0,_,_,_,_=>by omega
 |n+1,S,hI,hmu,_,e,s',he,hse=>by
   have hd2: ¬d=s.length:=by omega
   have hr:=e_stl_round t h hop d l b s hd hl hs S hI
   have hsp:=runI_spec (items t) ⟨S,false⟩ (items_ok h).ok hI.shape hI.near
   have hpass:=fun hf=>hI.pass h (ch:=false) hf
   have hlow:=fun hf=>near_mu (items_ok h).pos hI.shape hI.near fun i c hi hc=>hsp.chk hf i c ((items_ok h).all i c hi hc)
   have ih:=e_stl_l0 n (runI (items t) ⟨S,false⟩).1.S
   rw[show b74l0= .loop [1,2,5] [32] d74l0 from rfl]at ih⊢
   rw[run_head _ _ _ _ _ he hse]
   rw[passF_succ]
   have hm2:=hsp.mu2 rfl
   dsimp only at hm2
   clear hsp
   generalize runI (items t) ⟨S,false⟩=y at*
   obtain⟨⟨S',ch⟩,fin⟩:=y
   dsimp only at*
   generalize Run T d74l0 [(1, .asl d l 1 t.T 0 t.T),(2, .ptr s.length 32 0),(5, .bool true)] ([(32, .cell (vT t))]::putM s d b S)=r at hr⊢
   cases fin
   ·rw[if_neg (by simp)]at hr⊢
    simp only[Bool.false_eq_true,if_false]
    cases r with
    |none=>cases hr
    |some q=>
      obtain⟨ex,e1,s1⟩:=q
      cases ex with
      |normal=>simp at hr
      |exit id=>simp at hr
      |ret=>simp only[gcN_ret,Option.some.injEq]at hr;rw[hr];rfl
   ·rw[if_pos rfl]at hr⊢
    have hI':=hpass rfl
    have hlow:=hlow rfl
    cases r with
    |none=>cases hr
    |some q=>
      obtain⟨ex,e1,s1⟩:=q
      cases ex with
      |exit id=>simp at hr
      |ret=>simp at hr
      |normal=>
        simp only[gcN_normal,Option.some.injEq,Prod.mk.injEq,true_and]at hr
        rw[thenRun_normal]
        cases ch
        ·rw[run_head _ _ _ _ _ hr.1 hr.2]
         simp only[Bool.false_eq_true,if_false,if_true]
         generalize t.T=n at*
         simp (disch:=first|omega|assumption|decide +kernel|(simp;done)|(simp;omega)|fail) [hd2]
        ·have:=hm2 rfl
         rw[if_pos rfl]
         exact ih hI' (by omega) (by omega) e1 s1 hr.1 hr.2
end
set_option maxHeartbeats 2000000 in
theorem e_settle(t:CTrap)(h:TrapOk t)(hop: ∀l,l∈t.opn→l.length<4611686018427387904)(d l b:Nat)(s:Stk)(S:CMat)(hI:InvS t.T t.C 3000 S)(hd:d<s.length)(hl: ∀i,i<t.T→l≠b+1000*i)(hs:sget s d l=some (.arr 1 (ptrM d b (t.C+1) t.T)))(lab):
 den T 74 [.agg (vT t), .asl d l 1 t.T 0 t.T] lab (putM s d b S)=some (.bool (settleR t S).1,putM s d b (settleR t S).2):=by
 have hd2: ¬d=s.length:=by omega
 have hfu:muS S+muK t.T t.C+1<setFuel t S∧0<setFuel t S:=by unfold setFuel;omega
 have h0:=e_stl_l0 t h hop d l b s hd hl hs (setFuel t S) S hI hfu.1 hfu.2 [(1, .asl d l 1 t.T 0 t.T),(2, .ptr s.length 32 0),(5, .bool true)] ([(32, .cell (vT t))]::putM s d b S) (by simp[hd2]) (by simp[hd2])
 have hsp:=settleR_spec h hI.shape hI.near
 unfold settleR at hsp⊢
 rw[settleF_pass]at hsp⊢
 have h4:=fun hS=>e_stl_l4 t h d l b s (passF (items t) (setFuel t S) S).2 hS hd hl hs
 generalize passF (items t) (setFuel t S) S=r at*
 obtain⟨ok,S'⟩:=r
 dsimp only at*
 have hsh:Shape t.T t.C S':=by have:=hsp.shape;split at this<;>exact this
 have h4:=h4 hsh
 clear hsp hI hfu hs hl hsh
 rw[den_fn t74 _ _ _ rfl]
 simp only[b74]
 cases ok
 ·rw[if_neg (by simp)]at h0⊢
  generalize t.T=n at*
  simp (disch:=first|omega|assumption|decide +kernel|(simp;done)|(simp;omega)|fail) [hd2,h0]
 ·rw[if_pos rfl]at h0⊢
  generalize okS t.T t.C S'=o at*
  generalize t.T=n at*
  cases o
  ·rw[if_neg (by simp)]at h4
   simp (disch:=first|omega|assumption|decide +kernel|(simp;done)|(simp;omega)|fail) [hd2,h0,h4]
  ·rw[if_pos rfl]at h4
   simp (disch:=first|omega|assumption|decide +kernel|(simp;done)|(simp;omega)|fail) [hd2,h0,h4]
end Go.Proofs.YthghcainodgnkaaGreat

/-
  Watch: the reference's free.
-/
namespace Go.Proofs.YthghcainodgnkaaGreat
open Go.Ab
def rowsM:Nat→CMat→Ab.Loc
 |_,[]=>[]
 |l,r::R=>(l, .arr 2 (es cCSp r))::rowsM (l+1000) R
def matM(d l z:Nat)(S:CMat):Ab.Loc:=(l, .arr 1 (ptrM d (l+1000) z S.length))::rowsM (l+1000) S
def rowC(C c:Nat):List CSp:=List.replicate c ⟨0,40⟩ ++List.replicate (C+1-c) ⟨0,0⟩
theorem rowC_len(C c:Nat)(h:c≤C):(rowC C c).length=C+1:=by simp[rowC];omega
theorem rowC_cons(C c:Nat)(h:c<C):List.replicate (C+1-c) (⟨0,0⟩:CSp)=⟨0,0⟩::List.replicate (C+1-(c+1)) ⟨0,0⟩:=by
 rw[show C+1-c=(C+1-(c+1))+1 by omega,List.replicate_succ]
theorem rowC_set(C c:Nat)(h:c<C):(es cCSp (rowC C c)).set c [i64 0,i64 40]=es cCSp (rowC C (c+1)):=by
 have e:(es cCSp (rowC C c)).set c [i64 0,i64 40]=es cCSp ((rowC C c).set c ⟨0,40⟩):=by simp[es,List.map_set]
 rw[e]
 congr 1
 unfold rowC
 rw[rowC_cons C c h,List.set_append_right _ _ (by simp),List.length_replicate,Nat.sub_self,List.set_cons_zero,List.replicate_succ' (n:=c),List.append_assoc]
 rfl
theorem rowC_get(C c:Nat)(h:c<C):(es cCSp (rowC C c))[c]? =some [i64 0,i64 0]:=by
 simp only[es,rowC,List.getElem?_map]
 rw[List.getElem?_append_right (by simp),rowC_cons C c h]
 simp
theorem rowC_0(C:Nat):List.replicate (C+1) [i64 0,i64 0]=es cCSp (rowC C 0):=by simp[rowC,es]
set_option maxHeartbeats 1000000 in
theorem e_free_l1_0(t:CTrap)(hc:1≤t.chambers∧t.chambers≤4)(s:Stk):
 Run T b75l1 [(1, .ptr s.length 16 0),(3, .asl s.length 49 1 0 0 0),(4,i64 0),(5, .asl s.length 256 2 (t.C+1) 0 (t.C+1)),(6,i64 0)] ([(16, .cell (vT t)),(49, .arr 1 (ptrM s.length 256 (t.C+1) 0)),(256, .arr 2 (es cCSp (rowC t.C 0)))]::s)=
  some (.exit 2,[(1, .ptr s.length 16 0),(3, .asl s.length 49 1 0 0 0),(4,i64 0),(5, .asl s.length 256 2 (t.C+1) 0 (t.C+1)),(6,i64 t.C),(20, .bool false)],[(16, .cell (vT t)),(49, .arr 1 (ptrM s.length 256 (t.C+1) 0)),(256, .arr 2 (es cCSp (rowC t.C t.C)))]::s):=by
 have e1:t.C=t.chambers.toNat:=rfl
 have key:=loop_fold (T:=T) (live:=[1,3,4,5,6]) (keep:=[16,49,256,1256,2256,3256,4256,5256,6256,7256,8256]) (b:=d75l1) (List.range t.C) (fun _ _=>True) (fun(a:Unit) _=>a) (fun k _=>[(1, .ptr s.length 16 0),(3, .asl s.length 49 1 0 0 0),(4,i64 0),(5, .asl s.length 256 2 (t.C+1) 0 (t.C+1)),(6,i64 (k:Nat))]) (fun k _=>[(16, .cell (vT t)),(49, .arr 1 (ptrM s.length 256 (t.C+1) 0)),(256, .arr 2 (es cCSp (rowC t.C k)))]::s)
  (fun _=>(.exit 2,[(1, .ptr s.length 16 0),(3, .asl s.length 49 1 0 0 0),(4,i64 0),(5, .asl s.length 256 2 (t.C+1) 0 (t.C+1)),(6,i64 t.C),(20, .bool false)],[(16, .cell (vT t)),(49, .arr 1 (ptrM s.length 256 (t.C+1) 0)),(256, .arr 2 (es cCSp (rowC t.C t.C)))]::s)) (by simp) ?_ ?_ ?_ () trivial [(1, .ptr s.length 16 0),(3, .asl s.length 49 1 0 0 0),(4,i64 0),(5, .asl s.length 256 2 (t.C+1) 0 (t.C+1)),(6,i64 0)] ([(16, .cell (vT t)),(49, .arr 1 (ptrM s.length 256 (t.C+1) 0)),(256, .arr 2 (es cCSp (rowC t.C 0)))]::s) (by simp[ptrM,List.range_succ]) (by simp[ptrM,List.range_succ])
 ·exact key
 ·intro k a hk _
  simp only[List.length_range]at hk
  have hk2:(k:Int)<t.chambers:=by omega
  have hk3:(k:Int)<(t.C:Int)+1:=by omega
  have hk4:k<t.C+1:=by omega
  have hk9:k<1000:=by omega
  have r1:=rowC_len t.C k (by omega)
  have r2:=rowC_set t.C k hk
  have r3:=rowC_get t.C k hk
  obtain⟨_,r4⟩:=List.getElem?_eq_some_iff.1 r3
  generalize rowC t.C (k+1)=R2 at*
  have r5:(es cCSp (rowC t.C k)).length=t.C+1:=by simp[r1]
  generalize es cCSp (rowC t.C k)=R1 at*
  clear r1 r3
  clear e1
  generalize rowC t.C t.C=RR at*
  generalize t.C=C at*
  simp (disch:=first|omega|assumption|decide +kernel|(simp;done)|(simp;omega)|fail) [hk2,hk3,hk4,r2,r4,r5,ptrM,List.range_succ,wk k (by omega)]
 ·intro k a hk _
  trivial
 ·intro a _
  have hz:((t.C:Nat):Int)=t.chambers:=by omega
  simp only[List.length_range,hz]
  simp
set_option maxHeartbeats 1000000 in
theorem e_free_l1_1(t:CTrap)(hc:1≤t.chambers∧t.chambers≤4)(s:Stk):
 Run T b75l1 [(1, .ptr s.length 16 0),(3, .asl s.length 49 1 1 0 1),(4,i64 1),(5, .asl s.length 1256 2 (t.C+1) 0 (t.C+1)),(6,i64 0)] ([(16, .cell (vT t)),(49, .arr 1 (ptrM s.length 256 (t.C+1) 1)),(256, .arr 2 (es cCSp (rowC t.C t.C))),(1256, .arr 2 (es cCSp (rowC t.C 0)))]::s)=
  some (.exit 2,[(1, .ptr s.length 16 0),(3, .asl s.length 49 1 1 0 1),(4,i64 1),(5, .asl s.length 1256 2 (t.C+1) 0 (t.C+1)),(6,i64 t.C),(20, .bool false)],[(16, .cell (vT t)),(49, .arr 1 (ptrM s.length 256 (t.C+1) 1)),(256, .arr 2 (es cCSp (rowC t.C t.C))),(1256, .arr 2 (es cCSp (rowC t.C t.C)))]::s):=by
 have e1:t.C=t.chambers.toNat:=rfl
 have key:=loop_fold (T:=T) (live:=[1,3,4,5,6]) (keep:=[16,49,256,1256,2256,3256,4256,5256,6256,7256,8256]) (b:=d75l1) (List.range t.C) (fun _ _=>True) (fun(a:Unit) _=>a) (fun k _=>[(1, .ptr s.length 16 0),(3, .asl s.length 49 1 1 0 1),(4,i64 1),(5, .asl s.length 1256 2 (t.C+1) 0 (t.C+1)),(6,i64 (k:Nat))]) (fun k _=>[(16, .cell (vT t)),(49, .arr 1 (ptrM s.length 256 (t.C+1) 1)),(256, .arr 2 (es cCSp (rowC t.C t.C))),(1256, .arr 2 (es cCSp (rowC t.C k)))]::s)
  (fun _=>(.exit 2,[(1, .ptr s.length 16 0),(3, .asl s.length 49 1 1 0 1),(4,i64 1),(5, .asl s.length 1256 2 (t.C+1) 0 (t.C+1)),(6,i64 t.C),(20, .bool false)],[(16, .cell (vT t)),(49, .arr 1 (ptrM s.length 256 (t.C+1) 1)),(256, .arr 2 (es cCSp (rowC t.C t.C))),(1256, .arr 2 (es cCSp (rowC t.C t.C)))]::s)) (by simp) ?_ ?_ ?_ () trivial [(1, .ptr s.length 16 0),(3, .asl s.length 49 1 1 0 1),(4,i64 1),(5, .asl s.length 1256 2 (t.C+1) 0 (t.C+1)),(6,i64 0)] ([(16, .cell (vT t)),(49, .arr 1 (ptrM s.length 256 (t.C+1) 1)),(256, .arr 2 (es cCSp (rowC t.C t.C))),(1256, .arr 2 (es cCSp (rowC t.C 0)))]::s) (by simp[ptrM,List.range_succ]) (by simp[ptrM,List.range_succ])
 ·exact key
 ·intro k a hk _
  simp only[List.length_range]at hk
  have hk2:(k:Int)<t.chambers:=by omega
  have hk3:(k:Int)<(t.C:Int)+1:=by omega
  have hk4:k<t.C+1:=by omega
  have hk9:k<1000:=by omega
  have r1:=rowC_len t.C k (by omega)
  have r2:=rowC_set t.C k hk
  have r3:=rowC_get t.C k hk
  obtain⟨_,r4⟩:=List.getElem?_eq_some_iff.1 r3
  generalize rowC t.C (k+1)=R2 at*
  have r5:(es cCSp (rowC t.C k)).length=t.C+1:=by simp[r1]
  generalize es cCSp (rowC t.C k)=R1 at*
  clear r1 r3
  clear e1
  generalize rowC t.C t.C=RR at*
  generalize t.C=C at*
  simp (disch:=first|omega|assumption|decide +kernel|(simp;done)|(simp;omega)|fail) [hk2,hk3,hk4,r2,r4,r5,ptrM,List.range_succ,wk k (by omega)]
 ·intro k a hk _
  trivial
 ·intro a _
  have hz:((t.C:Nat):Int)=t.chambers:=by omega
  simp only[List.length_range,hz]
  simp
set_option maxHeartbeats 1000000 in
theorem e_free_l1_2(t:CTrap)(hc:1≤t.chambers∧t.chambers≤4)(s:Stk):
 Run T b75l1 [(1, .ptr s.length 16 0),(3, .asl s.length 49 1 2 0 2),(4,i64 2),(5, .asl s.length 2256 2 (t.C+1) 0 (t.C+1)),(6,i64 0)] ([(16, .cell (vT t)),(49, .arr 1 (ptrM s.length 256 (t.C+1) 2)),(256, .arr 2 (es cCSp (rowC t.C t.C))),(1256, .arr 2 (es cCSp (rowC t.C t.C))),(2256, .arr 2 (es cCSp (rowC t.C 0)))]::s)=
  some (.exit 2,[(1, .ptr s.length 16 0),(3, .asl s.length 49 1 2 0 2),(4,i64 2),(5, .asl s.length 2256 2 (t.C+1) 0 (t.C+1)),(6,i64 t.C),(20, .bool false)],[(16, .cell (vT t)),(49, .arr 1 (ptrM s.length 256 (t.C+1) 2)),(256, .arr 2 (es cCSp (rowC t.C t.C))),(1256, .arr 2 (es cCSp (rowC t.C t.C))),(2256, .arr 2 (es cCSp (rowC t.C t.C)))]::s):=by
 have e1:t.C=t.chambers.toNat:=rfl
 have key:=loop_fold (T:=T) (live:=[1,3,4,5,6]) (keep:=[16,49,256,1256,2256,3256,4256,5256,6256,7256,8256]) (b:=d75l1) (List.range t.C) (fun _ _=>True) (fun(a:Unit) _=>a) (fun k _=>[(1, .ptr s.length 16 0),(3, .asl s.length 49 1 2 0 2),(4,i64 2),(5, .asl s.length 2256 2 (t.C+1) 0 (t.C+1)),(6,i64 (k:Nat))]) (fun k _=>[(16, .cell (vT t)),(49, .arr 1 (ptrM s.length 256 (t.C+1) 2)),(256, .arr 2 (es cCSp (rowC t.C t.C))),(1256, .arr 2 (es cCSp (rowC t.C t.C))),(2256, .arr 2 (es cCSp (rowC t.C k)))]::s)
  (fun _=>(.exit 2,[(1, .ptr s.length 16 0),(3, .asl s.length 49 1 2 0 2),(4,i64 2),(5, .asl s.length 2256 2 (t.C+1) 0 (t.C+1)),(6,i64 t.C),(20, .bool false)],[(16, .cell (vT t)),(49, .arr 1 (ptrM s.length 256 (t.C+1) 2)),(256, .arr 2 (es cCSp (rowC t.C t.C))),(1256, .arr 2 (es cCSp (rowC t.C t.C))),(2256, .arr 2 (es cCSp (rowC t.C t.C)))]::s)) (by simp) ?_ ?_ ?_ () trivial [(1, .ptr s.length 16 0),(3, .asl s.length 49 1 2 0 2),(4,i64 2),(5, .asl s.length 2256 2 (t.C+1) 0 (t.C+1)),(6,i64 0)] ([(16, .cell (vT t)),(49, .arr 1 (ptrM s.length 256 (t.C+1) 2)),(256, .arr 2 (es cCSp (rowC t.C t.C))),(1256, .arr 2 (es cCSp (rowC t.C t.C))),(2256, .arr 2 (es cCSp (rowC t.C 0)))]::s) (by simp[ptrM,List.range_succ]) (by simp[ptrM,List.range_succ])
 ·exact key
 ·intro k a hk _
  simp only[List.length_range]at hk
  have hk2:(k:Int)<t.chambers:=by omega
  have hk3:(k:Int)<(t.C:Int)+1:=by omega
  have hk4:k<t.C+1:=by omega
  have hk9:k<1000:=by omega
  have r1:=rowC_len t.C k (by omega)
  have r2:=rowC_set t.C k hk
  have r3:=rowC_get t.C k hk
  obtain⟨_,r4⟩:=List.getElem?_eq_some_iff.1 r3
  generalize rowC t.C (k+1)=R2 at*
  have r5:(es cCSp (rowC t.C k)).length=t.C+1:=by simp[r1]
  generalize es cCSp (rowC t.C k)=R1 at*
  clear r1 r3
  clear e1
  generalize rowC t.C t.C=RR at*
  generalize t.C=C at*
  simp (disch:=first|omega|assumption|decide +kernel|(simp;done)|(simp;omega)|fail) [hk2,hk3,hk4,r2,r4,r5,ptrM,List.range_succ,wk k (by omega)]
 ·intro k a hk _
  trivial
 ·intro a _
  have hz:((t.C:Nat):Int)=t.chambers:=by omega
  simp only[List.length_range,hz]
  simp
set_option maxHeartbeats 1000000 in
theorem e_free_l1_3(t:CTrap)(hc:1≤t.chambers∧t.chambers≤4)(s:Stk):
 Run T b75l1 [(1, .ptr s.length 16 0),(3, .asl s.length 49 1 3 0 3),(4,i64 3),(5, .asl s.length 3256 2 (t.C+1) 0 (t.C+1)),(6,i64 0)] ([(16, .cell (vT t)),(49, .arr 1 (ptrM s.length 256 (t.C+1) 3)),(256, .arr 2 (es cCSp (rowC t.C t.C))),(1256, .arr 2 (es cCSp (rowC t.C t.C))),(2256, .arr 2 (es cCSp (rowC t.C t.C))),(3256, .arr 2 (es cCSp (rowC t.C 0)))]::s)=
  some (.exit 2,[(1, .ptr s.length 16 0),(3, .asl s.length 49 1 3 0 3),(4,i64 3),(5, .asl s.length 3256 2 (t.C+1) 0 (t.C+1)),(6,i64 t.C),(20, .bool false)],[(16, .cell (vT t)),(49, .arr 1 (ptrM s.length 256 (t.C+1) 3)),(256, .arr 2 (es cCSp (rowC t.C t.C))),(1256, .arr 2 (es cCSp (rowC t.C t.C))),(2256, .arr 2 (es cCSp (rowC t.C t.C))),(3256, .arr 2 (es cCSp (rowC t.C t.C)))]::s):=by
 have e1:t.C=t.chambers.toNat:=rfl
 have key:=loop_fold (T:=T) (live:=[1,3,4,5,6]) (keep:=[16,49,256,1256,2256,3256,4256,5256,6256,7256,8256]) (b:=d75l1) (List.range t.C) (fun _ _=>True) (fun(a:Unit) _=>a) (fun k _=>[(1, .ptr s.length 16 0),(3, .asl s.length 49 1 3 0 3),(4,i64 3),(5, .asl s.length 3256 2 (t.C+1) 0 (t.C+1)),(6,i64 (k:Nat))]) (fun k _=>[(16, .cell (vT t)),(49, .arr 1 (ptrM s.length 256 (t.C+1) 3)),(256, .arr 2 (es cCSp (rowC t.C t.C))),(1256, .arr 2 (es cCSp (rowC t.C t.C))),(2256, .arr 2 (es cCSp (rowC t.C t.C))),(3256, .arr 2 (es cCSp (rowC t.C k)))]::s)
  (fun _=>(.exit 2,[(1, .ptr s.length 16 0),(3, .asl s.length 49 1 3 0 3),(4,i64 3),(5, .asl s.length 3256 2 (t.C+1) 0 (t.C+1)),(6,i64 t.C),(20, .bool false)],[(16, .cell (vT t)),(49, .arr 1 (ptrM s.length 256 (t.C+1) 3)),(256, .arr 2 (es cCSp (rowC t.C t.C))),(1256, .arr 2 (es cCSp (rowC t.C t.C))),(2256, .arr 2 (es cCSp (rowC t.C t.C))),(3256, .arr 2 (es cCSp (rowC t.C t.C)))]::s)) (by simp) ?_ ?_ ?_ () trivial [(1, .ptr s.length 16 0),(3, .asl s.length 49 1 3 0 3),(4,i64 3),(5, .asl s.length 3256 2 (t.C+1) 0 (t.C+1)),(6,i64 0)] ([(16, .cell (vT t)),(49, .arr 1 (ptrM s.length 256 (t.C+1) 3)),(256, .arr 2 (es cCSp (rowC t.C t.C))),(1256, .arr 2 (es cCSp (rowC t.C t.C))),(2256, .arr 2 (es cCSp (rowC t.C t.C))),(3256, .arr 2 (es cCSp (rowC t.C 0)))]::s) (by simp[ptrM,List.range_succ]) (by simp[ptrM,List.range_succ])
 ·exact key
 ·intro k a hk _
  simp only[List.length_range]at hk
  have hk2:(k:Int)<t.chambers:=by omega
  have hk3:(k:Int)<(t.C:Int)+1:=by omega
  have hk4:k<t.C+1:=by omega
  have hk9:k<1000:=by omega
  have r1:=rowC_len t.C k (by omega)
  have r2:=rowC_set t.C k hk
  have r3:=rowC_get t.C k hk
  obtain⟨_,r4⟩:=List.getElem?_eq_some_iff.1 r3
  generalize rowC t.C (k+1)=R2 at*
  have r5:(es cCSp (rowC t.C k)).length=t.C+1:=by simp[r1]
  generalize es cCSp (rowC t.C k)=R1 at*
  clear r1 r3
  clear e1
  generalize rowC t.C t.C=RR at*
  generalize t.C=C at*
  simp (disch:=first|omega|assumption|decide +kernel|(simp;done)|(simp;omega)|fail) [hk2,hk3,hk4,r2,r4,r5,ptrM,List.range_succ,wk k (by omega)]
 ·intro k a hk _
  trivial
 ·intro a _
  have hz:((t.C:Nat):Int)=t.chambers:=by omega
  simp only[List.length_range,hz]
  simp
set_option maxHeartbeats 1000000 in
theorem e_free_l1_4(t:CTrap)(hc:1≤t.chambers∧t.chambers≤4)(s:Stk):
 Run T b75l1 [(1, .ptr s.length 16 0),(3, .asl s.length 49 1 4 0 4),(4,i64 4),(5, .asl s.length 4256 2 (t.C+1) 0 (t.C+1)),(6,i64 0)] ([(16, .cell (vT t)),(49, .arr 1 (ptrM s.length 256 (t.C+1) 4)),(256, .arr 2 (es cCSp (rowC t.C t.C))),(1256, .arr 2 (es cCSp (rowC t.C t.C))),(2256, .arr 2 (es cCSp (rowC t.C t.C))),(3256, .arr 2 (es cCSp (rowC t.C t.C))),(4256, .arr 2 (es cCSp (rowC t.C 0)))]::s)=
  some (.exit 2,[(1, .ptr s.length 16 0),(3, .asl s.length 49 1 4 0 4),(4,i64 4),(5, .asl s.length 4256 2 (t.C+1) 0 (t.C+1)),(6,i64 t.C),(20, .bool false)],[(16, .cell (vT t)),(49, .arr 1 (ptrM s.length 256 (t.C+1) 4)),(256, .arr 2 (es cCSp (rowC t.C t.C))),(1256, .arr 2 (es cCSp (rowC t.C t.C))),(2256, .arr 2 (es cCSp (rowC t.C t.C))),(3256, .arr 2 (es cCSp (rowC t.C t.C))),(4256, .arr 2 (es cCSp (rowC t.C t.C)))]::s):=by
 have e1:t.C=t.chambers.toNat:=rfl
 have key:=loop_fold (T:=T) (live:=[1,3,4,5,6]) (keep:=[16,49,256,1256,2256,3256,4256,5256,6256,7256,8256]) (b:=d75l1) (List.range t.C) (fun _ _=>True) (fun(a:Unit) _=>a) (fun k _=>[(1, .ptr s.length 16 0),(3, .asl s.length 49 1 4 0 4),(4,i64 4),(5, .asl s.length 4256 2 (t.C+1) 0 (t.C+1)),(6,i64 (k:Nat))]) (fun k _=>[(16, .cell (vT t)),(49, .arr 1 (ptrM s.length 256 (t.C+1) 4)),(256, .arr 2 (es cCSp (rowC t.C t.C))),(1256, .arr 2 (es cCSp (rowC t.C t.C))),(2256, .arr 2 (es cCSp (rowC t.C t.C))),(3256, .arr 2 (es cCSp (rowC t.C t.C))),(4256, .arr 2 (es cCSp (rowC t.C k)))]::s)
  (fun _=>(.exit 2,[(1, .ptr s.length 16 0),(3, .asl s.length 49 1 4 0 4),(4,i64 4),(5, .asl s.length 4256 2 (t.C+1) 0 (t.C+1)),(6,i64 t.C),(20, .bool false)],[(16, .cell (vT t)),(49, .arr 1 (ptrM s.length 256 (t.C+1) 4)),(256, .arr 2 (es cCSp (rowC t.C t.C))),(1256, .arr 2 (es cCSp (rowC t.C t.C))),(2256, .arr 2 (es cCSp (rowC t.C t.C))),(3256, .arr 2 (es cCSp (rowC t.C t.C))),(4256, .arr 2 (es cCSp (rowC t.C t.C)))]::s)) (by simp) ?_ ?_ ?_ () trivial [(1, .ptr s.length 16 0),(3, .asl s.length 49 1 4 0 4),(4,i64 4),(5, .asl s.length 4256 2 (t.C+1) 0 (t.C+1)),(6,i64 0)] ([(16, .cell (vT t)),(49, .arr 1 (ptrM s.length 256 (t.C+1) 4)),(256, .arr 2 (es cCSp (rowC t.C t.C))),(1256, .arr 2 (es cCSp (rowC t.C t.C))),(2256, .arr 2 (es cCSp (rowC t.C t.C))),(3256, .arr 2 (es cCSp (rowC t.C t.C))),(4256, .arr 2 (es cCSp (rowC t.C 0)))]::s) (by simp[ptrM,List.range_succ]) (by simp[ptrM,List.range_succ])
 ·exact key
 ·intro k a hk _
  simp only[List.length_range]at hk
  have hk2:(k:Int)<t.chambers:=by omega
  have hk3:(k:Int)<(t.C:Int)+1:=by omega
  have hk4:k<t.C+1:=by omega
  have hk9:k<1000:=by omega
  have r1:=rowC_len t.C k (by omega)
  have r2:=rowC_set t.C k hk
  have r3:=rowC_get t.C k hk
  obtain⟨_,r4⟩:=List.getElem?_eq_some_iff.1 r3
  generalize rowC t.C (k+1)=R2 at*
  have r5:(es cCSp (rowC t.C k)).length=t.C+1:=by simp[r1]
  generalize es cCSp (rowC t.C k)=R1 at*
  clear r1 r3
  clear e1
  generalize rowC t.C t.C=RR at*
  generalize t.C=C at*
  simp (disch:=first|omega|assumption|decide +kernel|(simp;done)|(simp;omega)|fail) [hk2,hk3,hk4,r2,r4,r5,ptrM,List.range_succ,wk k (by omega)]
 ·intro k a hk _
  trivial
 ·intro a _
  have hz:((t.C:Nat):Int)=t.chambers:=by omega
  simp only[List.length_range,hz]
  simp
end Go.Proofs.YthghcainodgnkaaGreat

/-
  Watch: the reference's free, whole (not built yet).
-/
namespace Go.Proofs.YthghcainodgnkaaGreat
open Go.Ab
theorem appK_rows(F:Ab.Loc)(s:Stk)(k:Nat)(E G:List (List V))(lab:Nat)(h1:Loc.get F 49=some (.arr 1 E))(h2:E.length=k)(h3:Loc.get F 464=some (.arr 1 G))(h4:G.length=1)(h5:G.all V.oneAll=true)(hb:k≤1000):
 appK 1 24 lab (F::s) (.asl s.length 49 1 k 0 k) (.asl s.length 464 1 1 0 1)=some (.asl s.length 49 1 (k+1) 0 (k+1),Loc.put F 49 (.arr 1 (E ++G))::s):=by
 subst h2
 have h6:G.take 1=G:=List.take_of_length_le (by omega)
 have h7: ∀x∈G,V.oneAll x=true:=by simpa using h5
 unfold appK
 have b1:(E.length+1)*24≤140737488355328:=by omega
 have b2:E.length+1<140737488355328:=by omega
 simp[h1,h3,h4,h6,effK,b1,b2]
 rw[if_pos h7]
 simp[seff]
set_option maxHeartbeats 1000000 in
theorem e_free_r_0(t:CTrap)(hc:1≤t.chambers∧t.chambers≤4)(hk:0<t.times)(s:Stk):
 gcN [1,3,4] [16,49,256,1256,2256,3256,4256,5256,6256,7256,8256] (Run T d75l0 [(1, .ptr s.length 16 0),(3, .asl s.length 49 1 0 0 0),(4,i64 0)] ([(16, .cell (vT t)),(49, .arr 1 (ptrM s.length 256 (t.C+1) 0))]::s))=
  some (.normal,[(1, .ptr s.length 16 0),(3, .asl s.length 49 1 1 0 1),(4,i64 1)],[(16, .cell (vT t)),(49, .arr 1 (ptrM s.length 256 (t.C+1) 1)),(256, .arr 2 (es cCSp (rowC t.C t.C)))]::s):=by
 have h:=e_free_l1_0 t hc s
 have e1:t.C=t.chambers.toNat:=rfl
 have w1:IntKind.i64.wrap (t.chambers+1)=t.chambers+1:=wi _ (by omega) (by omega)
 have hn:(t.chambers+1).toNat=t.C+1:=by omega
 have hrep:=rowC_0 t.C
 have q1:0≤t.chambers+1:=by omega
 have q2:(t.chambers+1)*16≤140737488355328:=by omega
 have q3:t.chambers+1<140737488355328:=by omega
 have q4: ¬140737488355328<(t.chambers+1)*16:=by omega
 have q5: ¬140737488355328≤t.chambers+1:=by omega
 have happ:=appK_rows ([(16, .cell (vT t)),(49, .arr 1 (ptrM s.length 256 (t.C+1) 0)),(256, .arr 2 (es cCSp (rowC t.C t.C))),(464, .arr 1 [[.asl s.length 256 2 (t.C+1) 0 (t.C+1)]])]) s 0 (ptrM s.length 256 (t.C+1) 0) [[.asl s.length 256 2 (t.C+1) 0 (t.C+1)]] 480 (by rfl) (by simp) (by rfl) (by rfl) (by rfl) (by omega)
 simp[ptrM,List.range_succ]at h happ⊢
 clear e1
 generalize rowC t.C t.C=R at*
 generalize hR0:rowC t.C 0=R0 at*
 generalize t.C=C at*
 simp (disch:=first|omega|assumption|decide +kernel|(simp;done)|(simp;omega)|fail) [hk,h,w1,hn,hrep,q1,q2,q3,q4,q5,happ,show IntKind.i64.wrap 1=1 from wi _ (by decide) (by decide)]
set_option maxHeartbeats 1000000 in
theorem e_free_r_1(t:CTrap)(hc:1≤t.chambers∧t.chambers≤4)(hk:1<t.times)(s:Stk):
 gcN [1,3,4] [16,49,256,1256,2256,3256,4256,5256,6256,7256,8256] (Run T d75l0 [(1, .ptr s.length 16 0),(3, .asl s.length 49 1 1 0 1),(4,i64 1)] ([(16, .cell (vT t)),(49, .arr 1 (ptrM s.length 256 (t.C+1) 1)),(256, .arr 2 (es cCSp (rowC t.C t.C)))]::s))=
  some (.normal,[(1, .ptr s.length 16 0),(3, .asl s.length 49 1 2 0 2),(4,i64 2)],[(16, .cell (vT t)),(49, .arr 1 (ptrM s.length 256 (t.C+1) 2)),(256, .arr 2 (es cCSp (rowC t.C t.C))),(1256, .arr 2 (es cCSp (rowC t.C t.C)))]::s):=by
 have h:=e_free_l1_1 t hc s
 have e1:t.C=t.chambers.toNat:=rfl
 have w1:IntKind.i64.wrap (t.chambers+1)=t.chambers+1:=wi _ (by omega) (by omega)
 have hn:(t.chambers+1).toNat=t.C+1:=by omega
 have hrep:=rowC_0 t.C
 have q1:0≤t.chambers+1:=by omega
 have q2:(t.chambers+1)*16≤140737488355328:=by omega
 have q3:t.chambers+1<140737488355328:=by omega
 have q4: ¬140737488355328<(t.chambers+1)*16:=by omega
 have q5: ¬140737488355328≤t.chambers+1:=by omega
 have happ:=appK_rows ([(16, .cell (vT t)),(49, .arr 1 (ptrM s.length 256 (t.C+1) 1)),(256, .arr 2 (es cCSp (rowC t.C t.C))),(1256, .arr 2 (es cCSp (rowC t.C t.C))),(464, .arr 1 [[.asl s.length 1256 2 (t.C+1) 0 (t.C+1)]])]) s 1 (ptrM s.length 256 (t.C+1) 1) [[.asl s.length 1256 2 (t.C+1) 0 (t.C+1)]] 480 (by rfl) (by simp) (by rfl) (by rfl) (by rfl) (by omega)
 simp[ptrM,List.range_succ]at h happ⊢
 clear e1
 generalize rowC t.C t.C=R at*
 generalize hR0:rowC t.C 0=R0 at*
 generalize t.C=C at*
 simp (disch:=first|omega|assumption|decide +kernel|(simp;done)|(simp;omega)|fail) [hk,h,w1,hn,hrep,q1,q2,q3,q4,q5,happ,show IntKind.i64.wrap 2=2 from wi _ (by decide) (by decide)]
set_option maxHeartbeats 1000000 in
theorem e_free_r_2(t:CTrap)(hc:1≤t.chambers∧t.chambers≤4)(hk:2<t.times)(s:Stk):
 gcN [1,3,4] [16,49,256,1256,2256,3256,4256,5256,6256,7256,8256] (Run T d75l0 [(1, .ptr s.length 16 0),(3, .asl s.length 49 1 2 0 2),(4,i64 2)] ([(16, .cell (vT t)),(49, .arr 1 (ptrM s.length 256 (t.C+1) 2)),(256, .arr 2 (es cCSp (rowC t.C t.C))),(1256, .arr 2 (es cCSp (rowC t.C t.C)))]::s))=
  some (.normal,[(1, .ptr s.length 16 0),(3, .asl s.length 49 1 3 0 3),(4,i64 3)],[(16, .cell (vT t)),(49, .arr 1 (ptrM s.length 256 (t.C+1) 3)),(256, .arr 2 (es cCSp (rowC t.C t.C))),(1256, .arr 2 (es cCSp (rowC t.C t.C))),(2256, .arr 2 (es cCSp (rowC t.C t.C)))]::s):=by
 have h:=e_free_l1_2 t hc s
 have e1:t.C=t.chambers.toNat:=rfl
 have w1:IntKind.i64.wrap (t.chambers+1)=t.chambers+1:=wi _ (by omega) (by omega)
 have hn:(t.chambers+1).toNat=t.C+1:=by omega
 have hrep:=rowC_0 t.C
 have q1:0≤t.chambers+1:=by omega
 have q2:(t.chambers+1)*16≤140737488355328:=by omega
 have q3:t.chambers+1<140737488355328:=by omega
 have q4: ¬140737488355328<(t.chambers+1)*16:=by omega
 have q5: ¬140737488355328≤t.chambers+1:=by omega
 have happ:=appK_rows ([(16, .cell (vT t)),(49, .arr 1 (ptrM s.length 256 (t.C+1) 2)),(256, .arr 2 (es cCSp (rowC t.C t.C))),(1256, .arr 2 (es cCSp (rowC t.C t.C))),(2256, .arr 2 (es cCSp (rowC t.C t.C))),(464, .arr 1 [[.asl s.length 2256 2 (t.C+1) 0 (t.C+1)]])]) s 2 (ptrM s.length 256 (t.C+1) 2) [[.asl s.length 2256 2 (t.C+1) 0 (t.C+1)]] 480 (by rfl) (by simp) (by rfl) (by rfl) (by rfl) (by omega)
 simp[ptrM,List.range_succ]at h happ⊢
 clear e1
 generalize rowC t.C t.C=R at*
 generalize hR0:rowC t.C 0=R0 at*
 generalize t.C=C at*
 simp (disch:=first|omega|assumption|decide +kernel|(simp;done)|(simp;omega)|fail) [hk,h,w1,hn,hrep,q1,q2,q3,q4,q5,happ,show IntKind.i64.wrap 3=3 from wi _ (by decide) (by decide)]
set_option maxHeartbeats 1000000 in
theorem e_free_r_3(t:CTrap)(hc:1≤t.chambers∧t.chambers≤4)(hk:3<t.times)(s:Stk):
 gcN [1,3,4] [16,49,256,1256,2256,3256,4256,5256,6256,7256,8256] (Run T d75l0 [(1, .ptr s.length 16 0),(3, .asl s.length 49 1 3 0 3),(4,i64 3)] ([(16, .cell (vT t)),(49, .arr 1 (ptrM s.length 256 (t.C+1) 3)),(256, .arr 2 (es cCSp (rowC t.C t.C))),(1256, .arr 2 (es cCSp (rowC t.C t.C))),(2256, .arr 2 (es cCSp (rowC t.C t.C)))]::s))=
  some (.normal,[(1, .ptr s.length 16 0),(3, .asl s.length 49 1 4 0 4),(4,i64 4)],[(16, .cell (vT t)),(49, .arr 1 (ptrM s.length 256 (t.C+1) 4)),(256, .arr 2 (es cCSp (rowC t.C t.C))),(1256, .arr 2 (es cCSp (rowC t.C t.C))),(2256, .arr 2 (es cCSp (rowC t.C t.C))),(3256, .arr 2 (es cCSp (rowC t.C t.C)))]::s):=by
 have h:=e_free_l1_3 t hc s
 have e1:t.C=t.chambers.toNat:=rfl
 have w1:IntKind.i64.wrap (t.chambers+1)=t.chambers+1:=wi _ (by omega) (by omega)
 have hn:(t.chambers+1).toNat=t.C+1:=by omega
 have hrep:=rowC_0 t.C
 have q1:0≤t.chambers+1:=by omega
 have q2:(t.chambers+1)*16≤140737488355328:=by omega
 have q3:t.chambers+1<140737488355328:=by omega
 have q4: ¬140737488355328<(t.chambers+1)*16:=by omega
 have q5: ¬140737488355328≤t.chambers+1:=by omega
 have happ:=appK_rows ([(16, .cell (vT t)),(49, .arr 1 (ptrM s.length 256 (t.C+1) 3)),(256, .arr 2 (es cCSp (rowC t.C t.C))),(1256, .arr 2 (es cCSp (rowC t.C t.C))),(2256, .arr 2 (es cCSp (rowC t.C t.C))),(3256, .arr 2 (es cCSp (rowC t.C t.C))),(464, .arr 1 [[.asl s.length 3256 2 (t.C+1) 0 (t.C+1)]])]) s 3 (ptrM s.length 256 (t.C+1) 3) [[.asl s.length 3256 2 (t.C+1) 0 (t.C+1)]] 480 (by rfl) (by simp) (by rfl) (by rfl) (by rfl) (by omega)
 simp[ptrM,List.range_succ]at h happ⊢
 clear e1
 generalize rowC t.C t.C=R at*
 generalize hR0:rowC t.C 0=R0 at*
 generalize t.C=C at*
 simp (disch:=first|omega|assumption|decide +kernel|(simp;done)|(simp;omega)|fail) [hk,h,w1,hn,hrep,q1,q2,q3,q4,q5,happ,show IntKind.i64.wrap 4=4 from wi _ (by decide) (by decide)]
set_option maxHeartbeats 1000000 in
theorem e_free_r_4(t:CTrap)(hc:1≤t.chambers∧t.chambers≤4)(hk:4<t.times)(s:Stk):
 gcN [1,3,4] [16,49,256,1256,2256,3256,4256,5256,6256,7256,8256] (Run T d75l0 [(1, .ptr s.length 16 0),(3, .asl s.length 49 1 4 0 4),(4,i64 4)] ([(16, .cell (vT t)),(49, .arr 1 (ptrM s.length 256 (t.C+1) 4)),(256, .arr 2 (es cCSp (rowC t.C t.C))),(1256, .arr 2 (es cCSp (rowC t.C t.C))),(2256, .arr 2 (es cCSp (rowC t.C t.C))),(3256, .arr 2 (es cCSp (rowC t.C t.C)))]::s))=
  some (.normal,[(1, .ptr s.length 16 0),(3, .asl s.length 49 1 5 0 5),(4,i64 5)],[(16, .cell (vT t)),(49, .arr 1 (ptrM s.length 256 (t.C+1) 5)),(256, .arr 2 (es cCSp (rowC t.C t.C))),(1256, .arr 2 (es cCSp (rowC t.C t.C))),(2256, .arr 2 (es cCSp (rowC t.C t.C))),(3256, .arr 2 (es cCSp (rowC t.C t.C))),(4256, .arr 2 (es cCSp (rowC t.C t.C)))]::s):=by
 have h:=e_free_l1_4 t hc s
 have e1:t.C=t.chambers.toNat:=rfl
 have w1:IntKind.i64.wrap (t.chambers+1)=t.chambers+1:=wi _ (by omega) (by omega)
 have hn:(t.chambers+1).toNat=t.C+1:=by omega
 have hrep:=rowC_0 t.C
 have q1:0≤t.chambers+1:=by omega
 have q2:(t.chambers+1)*16≤140737488355328:=by omega
 have q3:t.chambers+1<140737488355328:=by omega
 have q4: ¬140737488355328<(t.chambers+1)*16:=by omega
 have q5: ¬140737488355328≤t.chambers+1:=by omega
 have happ:=appK_rows ([(16, .cell (vT t)),(49, .arr 1 (ptrM s.length 256 (t.C+1) 4)),(256, .arr 2 (es cCSp (rowC t.C t.C))),(1256, .arr 2 (es cCSp (rowC t.C t.C))),(2256, .arr 2 (es cCSp (rowC t.C t.C))),(3256, .arr 2 (es cCSp (rowC t.C t.C))),(4256, .arr 2 (es cCSp (rowC t.C t.C))),(464, .arr 1 [[.asl s.length 4256 2 (t.C+1) 0 (t.C+1)]])]) s 4 (ptrM s.length 256 (t.C+1) 4) [[.asl s.length 4256 2 (t.C+1) 0 (t.C+1)]] 480 (by rfl) (by simp) (by rfl) (by rfl) (by rfl) (by omega)
 simp[ptrM,List.range_succ]at h happ⊢
 clear e1
 generalize rowC t.C t.C=R at*
 generalize hR0:rowC t.C 0=R0 at*
 generalize t.C=C at*
 simp (disch:=first|omega|assumption|decide +kernel|(simp;done)|(simp;omega)|fail) [hk,h,w1,hn,hrep,q1,q2,q3,q4,q5,happ,show IntKind.i64.wrap 5=5 from wi _ (by decide) (by decide)]
def freeF(t:CTrap)(d k:Nat):Ab.Loc:=(16, .cell (vT t))::(49, .arr 1 (ptrM d 256 (t.C+1) k))::rowsM 256 (List.replicate k (rowC t.C t.C))
set_option maxHeartbeats 1000000 in
theorem e_free_l0(t:CTrap)(hc:1≤t.chambers∧t.chambers≤4)(ht:1≤t.times∧t.times≤5)(s:Stk):
 Run T b75l0 [(3, .asl s.length 49 1 0 0 0),(1, .ptr s.length 16 0),(3, .sl .full 1 []),(4,i64 0)] ([(16, .cell (vT t)),(49, .arr 1 [])]::s)=
  some (.exit 0,[(1, .ptr s.length 16 0),(3, .asl s.length 49 1 t.T 0 t.T),(4,i64 t.T),(10, .bool false)],freeF t s.length t.T::s):=by
 have e2:t.T=t.times.toNat:=rfl
 have key:=loop_fold (T:=T) (live:=[1,3,4]) (keep:=[16,49,256,1256,2256,3256,4256,5256,6256,7256,8256]) (b:=d75l0) (List.range t.T) (fun _ _=>True) (fun(a:Unit) _=>a) (fun k _=>[(1, .ptr s.length 16 0),(3, .asl s.length 49 1 k 0 k),(4,i64 (k:Nat))]) (fun k _=>freeF t s.length k::s)
  (fun _=>(.exit 0,[(1, .ptr s.length 16 0),(3, .asl s.length 49 1 t.T 0 t.T),(4,i64 t.T),(10, .bool false)],freeF t s.length t.T::s)) (by simp) ?_ ?_ ?_ () trivial [(3, .asl s.length 49 1 0 0 0),(1, .ptr s.length 16 0),(3, .sl .full 1 []),(4,i64 0)] ([(16, .cell (vT t)),(49, .arr 1 [])]::s) (by simp) (by simp[freeF,ptrM,rowsM])
 ·exact key
 ·intro k a hk _
  simp only[List.length_range]at hk
  have hk5:k=0∨k=1∨k=2∨k=3∨k=4:=by omega
  rcases hk5 with rfl|rfl|rfl|rfl|rfl
  ·exact e_free_r_0 t hc (by omega) s
  ·exact e_free_r_1 t hc (by omega) s
  ·exact e_free_r_2 t hc (by omega) s
  ·exact e_free_r_3 t hc (by omega) s
  ·exact e_free_r_4 t hc (by omega) s
 ·intro k a hk _
  trivial
 ·intro a _
  have hz:((t.T:Nat):Int)=t.times:=by omega
  simp only[List.length_range,hz,freeF]
  generalize t.T=n at*
  simp
theorem get_app(F G:Ab.Loc)(k:Nat)(h:Loc.get F k=none):Loc.get (F ++G) k=Loc.get G k:=by
 induction F with
 |nil=>rfl
 |cons x F ih=>
   obtain⟨m,x⟩:=x
   simp only[Loc.get]at h
   by_cases e:k=m
   ·simp[e]at h
   ·rw[if_neg e]at h
    rw[List.cons_append,Loc.get,if_neg e,ih h]
theorem put_new(F:Ab.Loc)(k:Nat)(x:Entry)(h:Loc.get F k=none):Loc.put F k x=F ++[(k,x)]:=by
 induction F with
 |nil=>rfl
 |cons y F ih=>
   obtain⟨m,y⟩:=y
   simp only[Loc.get]at h
   by_cases e:k=m
   ·simp[e]at h
   ·rw[if_neg e]at h
    rw[Loc.put,if_neg e,ih h];rfl
theorem put_app(F G:Ab.Loc)(k:Nat)(x:Entry)(h:Loc.get F k=none):Loc.put (F ++G) k x=F ++Loc.put G k x:=by
 induction F with
 |nil=>rfl
 |cons y F ih=>
   obtain⟨m,y⟩:=y
   simp only[Loc.get]at h
   by_cases e:k=m
   ·simp[e]at h
   ·rw[if_neg e]at h
    rw[List.cons_append,Loc.put,if_neg e,ih h];rfl
def FreeAt(F:Ab.Loc)(lab:Nat):Prop:= ∀i,i≤5→Loc.get F (lab+1000*i)=none
theorem FreeAt.all {F lab}(h:FreeAt F lab):Loc.get F lab=none∧Loc.get F (lab+1000)=none∧Loc.get F (lab+2000)=none∧Loc.get F (lab+3000)=none∧Loc.get F (lab+4000)=none∧Loc.get F (lab+5000)=none:=
 ⟨h 0 (by omega),h 1 (by omega),h 2 (by omega),h 3 (by omega),h 4 (by omega),h 5 (by omega)⟩
set_option maxRecDepth 20000 in
set_option maxHeartbeats 2000000 in
theorem adopt_free(t:CTrap)(n:Nat)(hn:n≤5)(F:Ab.Loc)(s:Stk)(lab:Nat)(hF:FreeAt F lab):
 adopt true (freeF t (s.length+1) n) (.asl (s.length+1) 49 1 n 0 n) lab (F::s)=some (.asl s.length lab 1 n 0 n,(F ++matM s.length lab (t.C+1) (List.replicate n (rowC t.C t.C)))::s):=by
 obtain⟨h0,h1,h2,h3,h4,h5⟩:=hF.all
 have key: ∀x:Entry,Loc.put F lab x=F ++[(lab,x)]:=fun x=>put_new F lab x h0
 generalize hR:rowC t.C t.C=R
 have hn6:n=0∨n=1∨n=2∨n=3∨n=4∨n=5:=by omega
 rcases hn6 with rfl|rfl|rfl|rfl|rfl|rfl
 ·simp[freeF,hR,ptrM,rowsM,matM,dedup,newLab,idxOf,key,h0]
 ·simp[freeF,hR,ptrM,List.range_succ,List.replicate,rowsM,matM,dedup,newLab,idxOf,Entry.map,Entry.goes,renR,key,get_app,put_app,Loc.get,Loc.put,h0,h1]
 ·simp[freeF,hR,ptrM,List.range_succ,List.replicate,rowsM,matM,dedup,newLab,idxOf,Entry.map,Entry.goes,renR,key,get_app,put_app,Loc.get,Loc.put,h0,h1,h2,Nat.add_assoc]
 ·simp[freeF,hR,ptrM,List.range_succ,List.replicate,rowsM,matM,dedup,newLab,idxOf,Entry.map,Entry.goes,renR,key,get_app,put_app,Loc.get,Loc.put,h0,h1,h2,h3,Nat.add_assoc]
 ·simp[freeF,hR,ptrM,List.range_succ,List.replicate,rowsM,matM,dedup,newLab,idxOf,Entry.map,Entry.goes,renR,key,get_app,put_app,Loc.get,Loc.put,h0,h1,h2,h3,h4,Nat.add_assoc]
 ·simp[freeF,hR,ptrM,List.range_succ,List.replicate,rowsM,matM,dedup,newLab,idxOf,Entry.map,Entry.goes,renR,key,get_app,put_app,Loc.get,Loc.put,h0,h1,h2,h3,h4,h5,Nat.add_assoc]
theorem e_free(t:CTrap)(hc:1≤t.chambers∧t.chambers≤4)(ht:1≤t.times∧t.times≤5)(F:Ab.Loc)(s:Stk)(lab:Nat)(hF:FreeAt F lab):den T 75 [.agg (vT t)] lab (F::s)=some (.asl s.length lab 1 t.T 0 t.T,(F ++matM s.length lab (t.C+1) (freeL t))::s):=by
 have h:=e_free_l0 t hc ht (F::s)
 simp only[List.length_cons]at h
 have e2:t.T=t.times.toNat:=rfl
 have ha:=adopt_free t t.T (by omega) F s lab hF
 rw[show List.replicate t.T (rowC t.C t.C)=freeL t by simp[freeL,rowC]]at ha
 generalize freeL t=S at*
 generalize freeF t (s.length+1) t.T=FF at*
 generalize t.T=n at*
 rw[den_fn t75 _ _ _ rfl]
 simp only[b75]
 simp[h,ha,-adopt_eq]
end Go.Proofs.YthghcainodgnkaaGreat

/-
  Watch: the reference's IsOne (not built yet).
-/
namespace Go.Proofs.YthghcainodgnkaaGreat
open Go.Ab
def putL(F:Ab.Loc):Nat→CMat→Ab.Loc
 |_,[]=>F
 |b,r::R=>Loc.put (putL F (b+1000) R) b (.arr 2 (es cCSp r))
theorem putM_top(F:Ab.Loc)(s:Stk): ∀(R:CMat) (b:Nat),putM (F::s) s.length b R=putL F b R::s
 |[],_=>rfl
 |r::R,b=>by rw[putM,putM_top F s R,putL];simp[sput]
theorem get_app_none(F G:Ab.Loc)(k:Nat)(h1:Loc.get F k=none)(h2:Loc.get G k=none):Loc.get (F ++G) k=none:=by rw[get_app F G k h1,h2]
theorem putL_rows: ∀(S R:CMat) (b:Nat) (A:Ab.Loc),R.length=S.length→(∀i,i<S.length→Loc.get A (b+1000*i)=none)→putL (A ++rowsM b S) b R=A ++rowsM b R
 |[],[],_,_,_,_=>rfl
 |r0::S,r::R,b,A,hl,hA=>by
   have h0:=hA 0 (by simp)
   have ih:=putL_rows S R (b+1000) (A ++[(b, .arr 2 (es cCSp r0))]) (by simpa using hl) fun i hi=>get_app_none _ _ _ (by have:=hA (i+1) (by simpa using hi);rw[←this];congr 1;omega) (by rw[Loc.get,if_neg (by omega)];rfl)
   rw[List.append_assoc]at ih
   rw[putL,rowsM]
   rw[show [(b,Entry.arr 2 (es cCSp r0))] ++rowsM (b+1000) S=(b, .arr 2 (es cCSp r0))::rowsM (b+1000) S from rfl]at ih
   rw[ih,List.append_assoc,put_app _ _ _ _ (by simpa using h0)]
   simp[Loc.put,rowsM]
 |[],_::_,_,_,hl,_=>by simp at hl
 |_::_,[],_,_,hl,_=>by simp at hl
theorem putM_mat(G:Ab.Loc)(s:Stk)(l z:Nat)(S R:CMat)(hR:R.length=S.length)(hG: ∀i,i<S.length→Loc.get G (l+1000+1000*i)=none):putM ((G ++matM s.length l z S)::s) s.length (l+1000) R=(G ++matM s.length l z R)::s:=by
 have h:=putL_rows S R (l+1000) (G ++[(l, .arr 1 (ptrM s.length (l+1000) z S.length))]) hR fun i hi=>get_app_none _ _ _ (hG i hi) (by rw[Loc.get,if_neg (by omega)];rfl)
 rw[putM_top]
 simp only[List.append_assoc,List.singleton_append]at h
 unfold matM
 rw[h,hR]
theorem e_settle_mat(t:CTrap)(h:TrapOk t)(hop: ∀l,l∈t.opn→l.length<4611686018427387904)(G:Ab.Loc)(s:Stk)(l:Nat)(S:CMat)(hI:InvS t.T t.C 3000 S)(hG:FreeAt G l)(lab):
 den T 74 [.agg (vT t), .asl s.length l 1 t.T 0 t.T] lab ((G ++matM s.length l (t.C+1) S)::s)=some (.bool (settleR t S).1,(G ++matM s.length l (t.C+1) (settleR t S).2)::s):=by
 have htt:=h.tt
 have e2:t.T=t.times.toNat:=rfl
 have hG2: ∀i,i<S.length→Loc.get G (l+1000+1000*i)=none:=fun i hi=>by
  rw[hI.shape.len]at hi
  have:=hG (i+1) (by omega)
  rw[←this];congr 1;omega
 have hs:sget ((G ++matM s.length l (t.C+1) S)::s) s.length l=some (.arr 1 (ptrM s.length (l+1000) (t.C+1) t.T)):=by
  rw[sget_cons,if_pos rfl,get_app _ _ _ (by simpa using hG 0 (by omega)),matM,Loc.get,if_pos rfl,hI.shape.len]
 have key:=e_settle t h hop s.length l (l+1000) ((G ++matM s.length l (t.C+1) S)::s) S hI (by simp) (fun i hi=>by omega) hs lab
 have hsp:=settleR_spec h hI.shape hI.near
 rw[putM_mat G s l (t.C+1) S S rfl hG2,putM_mat G s l (t.C+1) S _ (by rw[hsp.shape.len,hI.shape.len]) hG2]at key
 exact key
theorem len_1 {α:Type}: ∀ {S:List α},S.length=1→ ∃a,S=[a]
 |[a],_=>⟨a,rfl⟩
theorem len_2 {α:Type}: ∀ {S:List α},S.length=2→ ∃a b,S=[a,b]
 |[a,b],_=>⟨a,b,rfl⟩
theorem len_3 {α:Type}: ∀ {S:List α},S.length=3→ ∃a b c,S=[a,b,c]
 |[a,b,c],_=>⟨a,b,c,rfl⟩
theorem len_4 {α:Type}: ∀ {S:List α},S.length=4→ ∃a b c d,S=[a,b,c,d]
 |[a,b,c,d],_=>⟨a,b,c,d,rfl⟩
theorem len_5 {α:Type}: ∀ {S:List α},S.length=5→ ∃a b c d e,S=[a,b,c,d,e]
 |[a,b,c,d,e],_=>⟨a,b,c,d,e,rfl⟩
set_option maxHeartbeats 2000000 in
theorem e_IsOne(t:CTrap)(h:TrapOk t)(hop: ∀l,l∈t.opn→l.length<4611686018427387904)(lab s):den T 18 [.agg (vT t)] lab s=some (.bool (isOneB t),s):=by
 have htt:=h.tt
 have e2:t.T=t.times.toNat:=rfl
 have hf:=e_free t h.cc h.tt [(16, .cell (vT t))] s 80 (fun i hi=>by simp[Loc.get];omega)
 have hs:=fun lab=>e_settle_mat t h hop [(16, .cell (vT t))] s 80 (freeL t) (InvS.free t) (fun i hi=>by simp[Loc.get];omega) lab
 have hl:=(settleR_spec h (free_shape t) (free_near t)).shape.len
 rw[show(settleR t (freeL t)).1=isOneB t from rfl]at hs
 have hn:t.T=1∨t.T=2∨t.T=3∨t.T=4∨t.T=5:=by omega
 generalize isOneB t=r at*
 generalize (settleR t (freeL t)).2=S2 at*
 rw[show freeL t=List.replicate t.T (rowC t.C t.C)by simp[freeL,rowC]]at hf hs
 clear e2
 generalize rowC t.C t.C=R at*
 generalize t.T=n at*
 generalize t.C=C at*
 rw[den_fn t18 _ _ _ rfl]
 simp only[b18]
 rcases hn with rfl|rfl|rfl|rfl|rfl
 ·obtain⟨a,rfl⟩:=len_1 hl
  simp[matM,rowsM,ptrM,List.range_succ,List.replicate]at hf hs
  simp (maxSteps:=1000000) (disch:=first|omega|assumption|decide +kernel|(simp;done)|(simp;omega)|fail) [run_drawnK,orSlow_none,hf,hs]
 ·obtain⟨a,b,rfl⟩:=len_2 hl
  simp[matM,rowsM,ptrM,List.range_succ,List.replicate]at hf hs
  simp (maxSteps:=1000000) (disch:=first|omega|assumption|decide +kernel|(simp;done)|(simp;omega)|fail) [run_drawnK,orSlow_none,hf,hs]
 ·obtain⟨a,b,c,rfl⟩:=len_3 hl
  simp[matM,rowsM,ptrM,List.range_succ,List.replicate]at hf hs
  simp (maxSteps:=1000000) (disch:=first|omega|assumption|decide +kernel|(simp;done)|(simp;omega)|fail) [run_drawnK,orSlow_none,hf,hs]
 ·obtain⟨a,b,c,d,rfl⟩:=len_4 hl
  simp[matM,rowsM,ptrM,List.range_succ,List.replicate]at hf hs
  simp (maxSteps:=1000000) (disch:=first|omega|assumption|decide +kernel|(simp;done)|(simp;omega)|fail) [run_drawnK,orSlow_none,hf,hs]
 ·obtain⟨a,b,c,d,e,rfl⟩:=len_5 hl
  simp[matM,rowsM,ptrM,List.range_succ,List.replicate]at hf hs
  simp (maxSteps:=1000000) (disch:=first|omega|assumption|decide +kernel|(simp;done)|(simp;omega)|fail) [run_drawnK,orSlow_none,hf,hs]
end Go.Proofs.YthghcainodgnkaaGreat

/-
  Watch: the reference's Check, ask, known.
-/
namespace Go.Proofs.YthghcainodgnkaaGreat
open Go.Ab
theorem e_chk01_l0(t:CTrap)(hm:Mid t)(hs:ShortT t)(s:Stk):
 Run T b95l0 [(1, .ptr s.length 16 0),(3,i64 0)] ([(16, .cell (vT t))]::s)=
  if allB (fun l=>rising l 0 (t.chambers-1)) t.opn=true then some (.exit 0,[(1, .ptr s.length 16 0),(3,i64 t.opn.length),(34, .bool false)],[(16, .cell (vT t))]::s)
  else some (.ret,[(2,i64 10)],[(16, .cell (vT t))]::s):=by
 obtain⟨⟨m1,m2⟩,_⟩:=hm
 have w1:IntKind.i64.wrap (t.chambers-1)=t.chambers-1:=wi _ (by omega) (by omega)
 refine loop_all t.opn (fun l=>rising l 0 (t.chambers-1)) (fun k=>[(1, .ptr s.length 16 0),(3,i64 k)]) (fun _=>[(16, .cell (vT t))]::s) _ _ (by simp) (by simp) ?_ (by simp) _ _ (by simp) (by simp)
 intro k hk
 have hlo:=hs.opn
 have hk2:(k:Int)<t.opn.length:=by omega
 have hl:=hs.each _ (List.getElem_mem hk)
 cases hr:rising t.opn[k] 0 (t.chambers-1)
 ·simp (maxSteps:=1000000) (disch:=first|omega|assumption|decide +kernel|(simp;done)|(simp;omega)|fail) [run_drawnK,hk,hk2,hl,hr,w1,wk k (by omega)]
 ·simp (maxSteps:=1000000) (disch:=first|omega|assumption|decide +kernel|(simp;done)|(simp;omega)|fail) [run_drawnK,hk,hk2,hl,hr,w1,wk k (by omega)]
theorem e_chk01_l1(t:CTrap)(hm:Mid t)(hs:ShortT t)(s:Stk):
 Run T b95l1 [(1, .ptr s.length 16 0),(4,i64 0)] ([(16, .cell (vT t))]::s)=
  if allB (fun w=>wordOk t w) t.words=true then some (.exit 2,[(1, .ptr s.length 16 0),(4,i64 t.words.length),(51, .bool false)],[(16, .cell (vT t))]::s)
  else some (.ret,[(2,i64 10)],[(16, .cell (vT t))]::s):=by
 refine loop_all t.words (fun w=>wordOk t w) (fun k=>[(1, .ptr s.length 16 0),(4,i64 k)]) (fun _=>[(16, .cell (vT t))]::s) _ _ (by simp) (by simp) ?_ (by simp) _ _ (by simp) (by simp)
 intro k hk
 have hlo:=hs.words
 have hk2:(k:Int)<t.words.length:=by omega
 have hw:=fun lab s=>e_isWord01 t hm t.words[k] lab s
 cases hr:wordOk t t.words[k]
 ·simp (maxSteps:=1000000) (disch:=first|omega|assumption|decide +kernel|(simp;done)|(simp;omega)|fail) [run_drawnK,hk,hk2,hw,hr,wk k (by omega)]
 ·simp (maxSteps:=1000000) (disch:=first|omega|assumption|decide +kernel|(simp;done)|(simp;omega)|fail) [run_drawnK,hk,hk2,hw,hr,wk k (by omega)]
set_option maxHeartbeats 1000000 in
theorem e_Check01(t:CTrap)(hs:ShortT t)(lab s):den T 95 [.agg (vT t)] lab s=some (i64 (if trapB t=true then 0 else 10),s):=by
 have ho:=hs.opn
 have hw:=hs.words
 rw[den_fn t95 _ _ _ rfl]
 simp only[b95]
 unfold trapB
 cases c1:wiB t.chambers 1 4
 ·simp (maxSteps:=1000000) (disch:=first|omega|assumption|decide +kernel|(simp;done)|(simp;omega)|fail) [c1]
 cases c2:wiB t.times 1 5
 ·simp (maxSteps:=1000000) (disch:=first|omega|assumption|decide +kernel|(simp;done)|(simp;omega)|fail) [c1,c2]
 have hm:Mid t:=TrapOk.mid (wiB_iff.1 c1) (wiB_iff.1 c2)
 have w1:IntKind.i64.wrap (t.times-1)=t.times-1:=by have:=(wiB_iff.1 c2);exact wi _ (by omega) (by omega)
 by_cases c3:(t.opn.length:Int)=t.times-1
 rotate_left
 ·simp (maxSteps:=1000000) (disch:=first|omega|assumption|decide +kernel|(simp;done)|(simp;omega)|fail) [c1,c2,c3,w1]
 by_cases c4:t.words.length≤8
 rotate_left
 ·have c4':(8:Int)<t.words.length:=by omega
  simp (maxSteps:=1000000) (disch:=first|omega|assumption|decide +kernel|(simp;done)|(simp;omega)|fail) [c1,c2,c3,c4,c4',w1]
 have c4': ¬(8:Int)<t.words.length:=by omega
 have h0:=e_chk01_l0 t hm hs s
 have h1:=e_chk01_l1 t hm hs s
 cases c5:allB (fun l=>rising l 0 (t.chambers-1)) t.opn
 ·rw[c5]at h0
  simp only[Bool.false_eq_true,if_false]at h0
  simp (maxSteps:=1000000) (disch:=first|omega|assumption|decide +kernel|(simp;done)|(simp;omega)|fail) [c1,c2,c3,c4,c4',c5,w1,h0]
 ·rw[c5]at h0
  simp only[if_true]at h0
  cases c6:allB (fun w=>wordOk t w) t.words
  ·rw[c6]at h1
   simp only[Bool.false_eq_true,if_false]at h1
   simp (maxSteps:=1000000) (disch:=first|omega|assumption|decide +kernel|(simp;done)|(simp;omega)|fail) [c1,c2,c3,c4,c4',c5,c6,w1,h0,h1]
  ·rw[c6]at h1
   simp only[if_true]at h1
   simp (maxSteps:=1000000) (disch:=first|omega|assumption|decide +kernel|(simp;done)|(simp;omega)|fail) [c1,c2,c3,c4,c4',c5,c6,w1,h0,h1]
end Go.Proofs.YthghcainodgnkaaGreat

/-
  Watch: what a matrix in a frame answers.
-/
namespace Go.Proofs.YthghcainodgnkaaGreat
open Go.Ab
theorem distinct_append {a b:List Nat}(h1:Ab.distinct a=true)(h2:Ab.distinct b=true)(h: ∀x,x∈a→x∉b):Ab.distinct (a ++b)=true:=by
 induction a with
 |nil=>exact h2
 |cons x a ih=>
   simp only[List.cons_append,Ab.distinct,Bool.and_eq_true,Bool.not_eq_true']at h1⊢
   refine⟨?_,ih h1.2 fun y hy=>h y (List.mem_cons_of_mem _ hy)⟩
   have hx:=h x (List.mem_cons_self ..)
   have h0:=h1.1
   simp only[List.contains_eq_mem,decide_eq_false_iff_not]at h0⊢
   intro hm
   rcases List.mem_append.1 hm with hm|hm
   ·exact h0 hm
   ·exact hx hm
end Go.Proofs.YthghcainodgnkaaGreat

/-
  Watch: the reference's difference: what a truth's number adds (not built yet).
-/
namespace Go.Proofs.YthghcainodgnkaaGreat
open Go.Ab
end Go.Proofs.YthghcainodgnkaaGreat

/-
  Watch: the reference's difference (not built yet).
-/
namespace Go.Proofs.YthghcainodgnkaaGreat
open Go.Ab
section
variable (d z : Nat) (S1 S2 : CMat) (o : CSp) (h1 : S1.length ≤ 5) (h2 : S2.length ≤ 5)
end
end Go.Proofs.YthghcainodgnkaaGreat

/-
  Watch: the reference's difference: a round (not built yet).
-/
namespace Go.Proofs.YthghcainodgnkaaGreat
open Go.Ab
end Go.Proofs.YthghcainodgnkaaGreat

/-
  Watch: the reference's difference, whole (not built yet).
-/
namespace Go.Proofs.YthghcainodgnkaaGreat
open Go.Ab
section
variable (t : CTrap) (h : TrapOk t) (hop : ∀ l, l ∈ t.opn → l.length < 4611686018427387904) (s : Stk) (i c j d : Nat) (hi : i < t.T) (hc : c ≤ t.C) (hj : j < t.T) (hd : d ≤ t.C)
include h hop hi hc hj hd
end
end Go.Proofs.YthghcainodgnkaaGreat

/-
  Watch: the reference's FishOf, Came.
-/
namespace Go.Proofs.YthghcainodgnkaaGreat
open Go.Ab
end Go.Proofs.YthghcainodgnkaaGreat

/-
  Watch: the reference's Copy (not built yet).
-/
namespace Go.Proofs.YthghcainodgnkaaGreat
open Go.Ab
def cpyF(t:CTrap)(d:Nat)(wE:Ab.Loc)(wv:V)(a:List (List Int)):Ab.Loc:=
 (16, .cell (vT t))::(32, .cell [i64 0,i64 0, .sl .full 1 [], .sl .full 4 []])::(wE ++[(48, .cell [i64 t.chambers,i64 t.times, .sl (.own d 52) 1 (es cInts a),wv]),(52, .tok a.length)])
set_option maxHeartbeats 2000000 in
theorem e_Copy_l0(t:CTrap)(hs:ShortT t)(ho:t.opn.length<1000000)(he: ∀l,l∈t.opn→l.length<1000000)(hw:t.words=[])(s:Stk):
 Run T b81l0 [(1, .ptr s.length 16 0),(2, .ptr s.length 32 0),(3, .ptr s.length 48 0),(4,i64 0)] (cpyF t s.length [] (.sl .full 4 []) []::s)=
  some (.exit 0,[(1, .ptr s.length 16 0),(2, .ptr s.length 32 0),(3, .ptr s.length 48 0),(4,i64 t.opn.length),(18, .bool false)],cpyF t s.length [] (.sl .full 4 []) t.opn::s):=by
 have key:=loop_fold (T:=T) (live:=[1,2,3,4]) (keep:=[16,32,48,52,144,192]) (b:=d81l0) t.opn (fun k (a:List (List Int))=>a.length=k) (fun a x=>a ++[x])
  (fun k _=>[(1, .ptr s.length 16 0),(2, .ptr s.length 32 0),(3, .ptr s.length 48 0),(4,i64 k)]) (fun _ a=>cpyF t s.length [] (.sl .full 4 []) a::s)
  (fun a=>(.exit 0,[(1, .ptr s.length 16 0),(2, .ptr s.length 32 0),(3, .ptr s.length 48 0),(4,i64 t.opn.length),(18, .bool false)],cpyF t s.length [] (.sl .full 4 []) a::s))
  (by simp) ?_ ?_ ?_ [] (by simp) [(1, .ptr s.length 16 0),(2, .ptr s.length 32 0),(3, .ptr s.length 48 0),(4,i64 0)] (cpyF t s.length [] (.sl .full 4 []) []::s) (by simp) (by simp[cpyF])
 ·have e: ∀(l a:List (List Int)),l.foldl (fun a x=>a ++[x]) a=a ++l:=by
   intro l
   induction l with
   |nil=>simp
   |cons x r ih=>intro a;simp[ih]
  rw[e,List.nil_append]at key
  exact key
 ·intro k a hk hi
  subst hi
  have hx:=he t.opn[a.length] (List.getElem_mem hk)
  have hk2:(a.length:Int)<t.opn.length:=by omega
  have e0: ∀x,es cInts a ++[[.sl .no 1 (es cInt x)]]=es cInts (a ++[x]):=fun x=>by simp[es]
  generalize hR:t.opn[a.length]=R at*
  by_cases h0:R=[]
  ·subst h0
   have e0:=e0 []
   simp only[es_nil]at e0
   simp (maxSteps:=1000000) (disch:=first|omega|assumption|decide +kernel|(simp;done)|(simp;omega)|fail) [run_drawnK,cpyF,hk,hk2,hR,e0,appD_full_nil,appK_own1,wk a.length (by omega)]
  ·have hne:es cInt R≠[]:=by simpa using h0
   simp (maxSteps:=1000000) (disch:=first|omega|assumption|decide +kernel|(simp;done)|(simp;omega)|fail) [run_drawnK,cpyF,hk,hk2,hR,e0,hne,appD_full,appK_own1,wk a.length (by omega)]
 ·intro k a hk hi
  simp[hi]
 ·intro a hi
  simp[cpyF]
set_option maxHeartbeats 2000000 in
theorem e_Copy_l1(t:CTrap)(hs:ShortT t)(ho:t.opn.length<1000000)(he: ∀l,l∈t.opn→l.length<1000000)(hw:t.words≠[])(s:Stk):
 Run T b81l0 [(1, .ptr s.length 16 0),(2, .ptr s.length 32 0),(3, .ptr s.length 48 0),(4,i64 0)] (cpyF t s.length [(192, .tok t.words.length)] (.sl (.own s.length 192) 4 (es cWord t.words)) []::s)=
  some (.exit 0,[(1, .ptr s.length 16 0),(2, .ptr s.length 32 0),(3, .ptr s.length 48 0),(4,i64 t.opn.length),(18, .bool false)],cpyF t s.length [(192, .tok t.words.length)] (.sl (.own s.length 192) 4 (es cWord t.words)) t.opn::s):=by
 have key:=loop_fold (T:=T) (live:=[1,2,3,4]) (keep:=[16,32,48,52,144,192]) (b:=d81l0) t.opn (fun k (a:List (List Int))=>a.length=k) (fun a x=>a ++[x])
  (fun k _=>[(1, .ptr s.length 16 0),(2, .ptr s.length 32 0),(3, .ptr s.length 48 0),(4,i64 k)]) (fun _ a=>cpyF t s.length [(192, .tok t.words.length)] (.sl (.own s.length 192) 4 (es cWord t.words)) a::s)
  (fun a=>(.exit 0,[(1, .ptr s.length 16 0),(2, .ptr s.length 32 0),(3, .ptr s.length 48 0),(4,i64 t.opn.length),(18, .bool false)],cpyF t s.length [(192, .tok t.words.length)] (.sl (.own s.length 192) 4 (es cWord t.words)) a::s))
  (by simp) ?_ ?_ ?_ [] (by simp) [(1, .ptr s.length 16 0),(2, .ptr s.length 32 0),(3, .ptr s.length 48 0),(4,i64 0)] (cpyF t s.length [(192, .tok t.words.length)] (.sl (.own s.length 192) 4 (es cWord t.words)) []::s) (by simp) (by simp[cpyF])
 ·have e: ∀(l a:List (List Int)),l.foldl (fun a x=>a ++[x]) a=a ++l:=by
   intro l
   induction l with
   |nil=>simp
   |cons x r ih=>intro a;simp[ih]
  rw[e,List.nil_append]at key
  exact key
 ·intro k a hk hi
  subst hi
  have hx:=he t.opn[a.length] (List.getElem_mem hk)
  have hk2:(a.length:Int)<t.opn.length:=by omega
  have e0: ∀x,es cInts a ++[[.sl .no 1 (es cInt x)]]=es cInts (a ++[x]):=fun x=>by simp[es]
  generalize hR:t.opn[a.length]=R at*
  by_cases h0:R=[]
  ·subst h0
   have e0:=e0 []
   simp only[es_nil]at e0
   simp (maxSteps:=1000000) (disch:=first|omega|assumption|decide +kernel|(simp;done)|(simp;omega)|fail) [run_drawnK,cpyF,hk,hk2,hR,e0,appD_full_nil,appK_own1,wk a.length (by omega)]
  ·have hne:es cInt R≠[]:=by simpa using h0
   simp (maxSteps:=1000000) (disch:=first|omega|assumption|decide +kernel|(simp;done)|(simp;omega)|fail) [run_drawnK,cpyF,hk,hk2,hR,e0,hne,appD_full,appK_own1,wk a.length (by omega)]
 ·intro k a hk hi
  simp[hi]
 ·intro a hi
  simp[cpyF]
set_option maxHeartbeats 2000000 in
theorem e_Copy01_0(t:CTrap)(hs:ShortT t)(ho:t.opn.length<1000000)(he: ∀l,l∈t.opn→l.length<1000000)(hw:t.words=[])(loc:Ab.Loc)(s:Stk)(lab:Nat)(k0:loc.get lab=none):
 den T 81 [.agg (vT t)] lab (loc::s)=some (.agg [i64 t.chambers,i64 t.times, .sl (.own s.length lab) 1 (es cInts t.opn), .sl .full 4 []],loc.put lab (.tok t.opn.length)::s):=by
 have key:=e_Copy_l0 t hs ho he hw (loc::s)
 simp only[cpyF,List.length_cons,es_nil,List.length_nil,List.nil_append,List.cons_append]at key
 rw[den_fn t81 _ _ _ rfl]
 simp only[b81]
 simp (maxSteps:=6000000) (disch:=first|omega|assumption|decide +kernel|(simp;done)|(simp;omega)|fail) [run_drawnK,hw,appD_full_nil,key,k0]
set_option maxHeartbeats 2000000 in
theorem e_Copy01_1(t:CTrap)(hs:ShortT t)(ho:t.opn.length<1000000)(hwl:t.words.length<1000000)(he: ∀l,l∈t.opn→l.length<1000000)(hw:t.words≠[])(loc:Ab.Loc)(s:Stk)(lab:Nat)(k0:loc.get lab=none)(k1:loc.get (lab+1000)=none):
 den T 81 [.agg (vT t)] lab (loc::s)=some (.agg [i64 t.chambers,i64 t.times, .sl (.own s.length lab) 1 (es cInts t.opn), .sl (.own s.length (lab+1000)) 4 (es cWord t.words)],(loc.put lab (.tok t.opn.length)).put (lab+1000) (.tok t.words.length)::s):=by
 have key:=e_Copy_l1 t hs ho he hw (loc::s)
 simp only[cpyF,List.length_cons,es_nil,List.length_nil,List.nil_append,List.cons_append]at key
 have hne:es cWord t.words≠[]:=by simpa using hw
 rw[den_fn t81 _ _ _ rfl]
 simp only[b81]
 simp (maxSteps:=6000000) (disch:=first|omega|assumption|decide +kernel|(simp;done)|(simp;omega)|fail) [run_drawnK,hne,appD_full,key,k0,k1]
end Go.Proofs.YthghcainodgnkaaGreat

/-
  Watch: the reference's Told, Judge.
-/
namespace Go.Proofs.YthghcainodgnkaaGreat
open Go.Ab
@[simp] theorem frzE_tok(l e loc r n):frzE l e loc r (some (.tok n))=(e,loc::r):=rfl
structure CopyT(t:CTrap):Prop where
 opn:t.opn.length<1000000
 words:t.words.length<1000000
 each: ∀l,l∈t.opn→l.length<1000000
theorem CopyT.short {t:CTrap}(h:CopyT t):ShortT t:=⟨by have:=h.opn;omega,by have:=h.words;omega,fun l hl=>by have:=h.each l hl;omega⟩
end Go.Proofs.YthghcainodgnkaaGreat

/-
  Watch: the reference's Judge, Known.
-/
namespace Go.Proofs.YthghcainodgnkaaGreat
open Go.Ab
end Go.Proofs.YthghcainodgnkaaGreat

/-
  Watch: the reference's Without, Known.
-/
namespace Go.Proofs.YthghcainodgnkaaGreat
open Go.Ab
end Go.Proofs.YthghcainodgnkaaGreat

/-
  Watch: the reference's small functions; CanBe.
-/
namespace Go.Proofs.YthghcainodgnkaaGreat
open Go.Ab
abbrev vB(b:WBook):List V:=[i64 b.trap.chambers,i64 b.trap.times, .sl .no 1 (es cInts b.trap.opn), .sl .no 4 (es cWord b.trap.words),i64 b.drunk,i64 b.run, .sl .no 1 (es cInt b.sober)]
structure CopyB(b:WBook):Prop where
 trap:CopyT b.trap
 sober:b.sober.length<1000000
def bookB(b:WBook):Bool:=trapB b.trap&&(wiB b.drunk 0 5&&(wiB b.run 0 5&&rising b.sober 0 (b.trap.times-1)))
theorem e_Check11(b:WBook)(hc:CopyB b)(lab s):den T 40 [.agg (vB b)] lab s=some (i64 (if bookB b=true then 0 else 110),s):=by
 have h:=fun lab s=>e_Check01 b.trap hc.trap.short lab s
 have h1:=hc.sober
 unfold bookB
 rw[den_fn t40 _ _ _ rfl]
 simp only[b40]
 cases c1:trapB b.trap
 ·simp (maxSteps:=1000000) (disch:=first|omega|assumption|decide +kernel|(simp;done)|(simp;omega)|fail) [h,c1]
 have hok:=(trapB_ok c1).tt
 have w1:IntKind.i64.wrap (b.trap.times-1)=b.trap.times-1:=wi _ (by omega) (by omega)
 cases c2:wiB b.drunk 0 5
 ·simp (maxSteps:=1000000) (disch:=first|omega|assumption|decide +kernel|(simp;done)|(simp;omega)|fail) [h,c1,c2]
 cases c3:wiB b.run 0 5
 ·simp (maxSteps:=1000000) (disch:=first|omega|assumption|decide +kernel|(simp;done)|(simp;omega)|fail) [h,c1,c2,c3]
 cases c4:rising b.sober 0 (b.trap.times-1)<;>simp (maxSteps:=1000000) (disch:=first|omega|assumption|decide +kernel|(simp;done)|(simp;omega)|fail) [h,c1,c2,c3,c4,w1]
def ask11(b:WBook)(is:Bool):Int:=if bookB b=true then(if is=true then 0 else 1)else 110
def cntL(l:List Int):Nat→Nat
 |0=>0
 |k+1=>runAt l k
theorem runAt_cnt(l:List Int)(k:Nat):runAt l k=if l.contains (k:Int)=true then cntL l k+1 else 0:=by
 cases k with
 |zero=>simp[runAt,cntL]
 |succ k=>simp only[runAt,cntL];rfl
theorem cntL_le(l:List Int): ∀k,cntL l k≤k
 |0=>Nat.le_refl _
 |k+1=>by
   have:=cntL_le l k
   rw[cntL,runAt_cnt]
   split<;>omega
def canP(b:WBook)(l:List Int)(k:Nat):Bool:= !has l k||(decide ((runAt l k:Int)≤b.run)&& !has b.sober k)
theorem has_contains(l:List Int)(k:Nat):has l k=l.contains (k:Int):=by
 rw[Bool.eq_iff_iff]
 simp only[has,anyB,List.any_eq_true,decide_eq_true_eq,List.contains_eq_mem]
 exact⟨fun⟨y,h1,h2⟩=>h2▸h1,fun h=>⟨_,h,rfl⟩⟩
set_option maxHeartbeats 1000000 in
theorem e_CanBe_l(b:WBook)(hc:CopyB b)(hm:Mid b.trap)(hT:b.trap.times≤1000)(l:List Int)(hl:l.length<1000000)(s:Stk):
 Run T b59l0 [(1, .sl .no 1 (es cInt l)),(2, .ptr s.length 32 0),(5,i64 0),(6,i64 0)] ([(32, .cell (vB b))]::s)=
  if allB (canP b l) (List.range b.T)=true then some (.exit 0,[(1, .sl .no 1 (es cInt l)),(2, .ptr s.length 32 0),(5,i64 (cntL l b.T:Nat)),(6,i64 b.T),(25, .bool false)],[(32, .cell (vB b))]::s)else some (.ret,[(4, .bool false)],[(32, .cell (vB b))]::s):=by
 have e2:b.T=b.trap.times.toNat:=rfl
 have hsl:=hc.sober
 refine loop_all (T:=T) (b:=d59l0) (List.range b.T) (canP b l) (fun k=>[(1, .sl .no 1 (es cInt l)),(2, .ptr s.length 32 0),(5,i64 (cntL l k:Nat)),(6,i64 (k:Nat))]) (fun _=>[(32, .cell (vB b))]::s) _ _ (by simp) (by simp) ?_ ?_ _ _ (by simp[cntL]) (by simp)
 ·intro k hk
  simp only[List.length_range]at hk
  simp only[List.getElem_range]
  have hk2:(k:Int)<b.trap.times:=by omega
  have hcn:=cntL_le l k
  have ec:cntL l (k+1)=if has l k=true then cntL l k+1 else 0:=by rw[has_contains,←runAt_cnt];rfl
  have er:runAt l k=if has l k=true then cntL l k+1 else 0:=by rw[has_contains,←runAt_cnt]
  have w1:IntKind.i64.wrap ((cntL l k:Int)+1)=(cntL l k:Int)+1:=wi _ (by omega) (by omega)
  have hk9:k<1000:=by omega
  rw[ec]
  unfold canP
  rw[er]
  clear ec er e2
  generalize cntL l k=n at*
  have i1: ∀lab s,den T 46 [.sl .no 1 (es cInt l),i64 k] lab s=some (.bool (has l k),s):=fun lab s=>e_In l k (by omega) lab s
  have i2: ∀lab s,den T 46 [.sl .no 1 (es cInt b.sober),i64 k] lab s=some (.bool (has b.sober k),s):=fun lab s=>e_In b.sober k (by omega) lab s
  generalize has b.sober k=h2 at*
  cases h1:has l k
  ·rw[h1]at i1
   simp (maxSteps:=1000000) (disch:=first|omega|assumption|decide +kernel|(simp;done)|(simp;omega)|fail) [hk2,i1,i2,-e_In,wk k (by omega)]
  ·rw[h1]at i1
   by_cases hr:(n:Int)+1≤b.run
   ·have hr2: ¬b.run<(n:Int)+1:=by omega
    cases h2<;>simp (maxSteps:=1000000) (disch:=first|omega|assumption|decide +kernel|(simp;done)|(simp;omega)|fail) [hk2,i1,i2,-e_In,w1,hr,hr2,wk k (by omega)]
   ·have hr2:b.run<(n:Int)+1:=by omega
    simp (maxSteps:=1000000) (disch:=first|omega|assumption|decide +kernel|(simp;done)|(simp;omega)|fail) [hk2,i1,i2,-e_In,w1,hr,hr2,wk k (by omega)]
 ·have hz: ¬((b.T:Nat):Int)<b.trap.times:=by omega
  simp only[List.length_range]
  generalize b.T=n at*
  simp (disch:=first|omega|assumption|decide +kernel|(simp;done)|(simp;omega)|fail) [hz]
end Go.Proofs.YthghcainodgnkaaGreat

/-
  Watch: the reference's CanBe, whole.
-/
namespace Go.Proofs.YthghcainodgnkaaGreat
open Go.Ab
def canR(b:WBook)(l:List Int):Bool:=rising l 0 (b.trap.times-1)&&canB b l
theorem canR_eq(b:WBook)(hT:0≤b.trap.times)(l:List Int):canR b l=(rising l 0 (b.trap.times-1)&&(decide ((l.length:Int)≤b.drunk)&&allB (canP b l) (List.range b.T))):=by
 unfold canR
 cases hr:rising l 0 (b.trap.times-1)
 ·rfl
 have h2:=(rising_iff.1 hr).2
 have e2:b.T=b.trap.times.toNat:=rfl
 rw[Bool.true_and,Bool.true_and,Bool.eq_iff_iff]
 unfold canB canP
 simp only[Bool.and_eq_true,List.all_eq_true,allB,Bool.or_eq_true,Bool.not_eq_true',List.mem_range,decide_eq_true_eq,has_contains]
 constructor
 ·rintro⟨a,h⟩
  refine⟨a,fun k hk=> ?_⟩
  cases hx:l.contains (k:Int)
  ·exact .inl rfl
  ·have:=h (k:Int) (by simpa using hx)
   simp only[Int.toNat_natCast]at this
   exact .inr this
 ·rintro⟨a,h⟩
  refine⟨a,fun n hn=> ?_⟩
  have hb:=h2 n hn
  have:=h n.toNat (by omega)
  rw[show((n.toNat:Nat):Int)=n by omega]at this
  rcases this with this|this
  ·have hm:l.contains n=true:=by simpa using hn
   rw[hm]at this;cases this
  ·exact this
set_option maxHeartbeats 1000000 in
theorem e_CanBe(b:WBook)(hc:CopyB b)(hT:0≤b.trap.times∧b.trap.times≤1000)(hm:Mid b.trap)(l:List Int)(hl:l.length<1000000)(lab s):den T 59 [.agg (vB b), .sl .no 1 (es cInt l)] lab s=some (.bool (canR b l),s):=by
 have h:=e_CanBe_l b hc hm hT.2 l hl s
 have w1:IntKind.i64.wrap (b.trap.times-1)=b.trap.times-1:=wi _ (by omega) (by omega)
 rw[canR_eq b hT.1]
 rw[den_fn t59 _ _ _ rfl]
 simp only[b59]
 cases c1:rising l 0 (b.trap.times-1)
 ·simp (maxSteps:=1000000) (disch:=first|omega|assumption|decide +kernel|(simp;done)|(simp;omega)|fail) [c1,w1]
 by_cases c2:(l.length:Int)≤b.drunk
 ·have c3: ¬b.drunk<l.length:=by omega
  cases c4:allB (canP b l) (List.range b.T)
  ·rw[c4,if_neg (by simp)]at h
   simp (maxSteps:=1000000) (disch:=first|omega|assumption|decide +kernel|(simp;done)|(simp;omega)|fail) [c1,c2,c3,w1,h]
  ·rw[c4,if_pos rfl]at h
   generalize cntL l b.T=m at*
   generalize b.T=n at*
   simp (maxSteps:=1000000) (disch:=first|omega|assumption|decide +kernel|(simp;done)|(simp;omega)|fail) [c1,c2,c3,w1,h]
 ·have c3:b.drunk<l.length:=by omega
  simp (maxSteps:=1000000) (disch:=first|omega|assumption|decide +kernel|(simp;done)|(simp;omega)|fail) [c1,c2,c3,w1]
end Go.Proofs.YthghcainodgnkaaGreat

/-
  Watch: the reference's TrapOf, IsStory (not built yet).
-/
namespace Go.Proofs.YthghcainodgnkaaGreat
open Go.Ab
def trpF(b:WBook)(d:Nat)(wE:Ab.Loc)(a:List CWord):Ab.Loc:=
 (32, .cell (vB b))::(64, .cell [i64 0,i64 0, .sl .full 1 [], .sl .full 4 []])::(144, .tok b.trap.opn.length)::(wE ++[(80, .cell [i64 b.trap.chambers,i64 b.trap.times, .sl (.own d 144) 1 (es cInts b.trap.opn), .sl (.own d 85) 4 (es cWord a)]),(85, .tok a.length)])
def soberW(l:List Int)(w:CWord):Bool:= !anyB (fun x=>decide (x=w.time)) l
def pickW(l:List Int)(a:List CWord)(w:CWord):List CWord:=if soberW l w=true then a ++[w]else a
theorem pickW_fold(l:List Int): ∀(ws a:List CWord),ws.foldl (pickW l) a=a ++ws.filter (soberW l)
 |[],a=>by simp
 |w::ws,a=>by
   rw[List.foldl_cons,pickW_fold l ws,List.filter_cons]
   unfold pickW
   by_cases h:soberW l w=true<;>simp[h]
theorem trapOf_pick(b:WBook)(l:List Int):trapOf b l= {b.trap with words:=b.trap.words.filter (soberW l)}:=by
 unfold trapOf lessT
 congr 2
 funext w
 unfold soberW anyB
 congr 1
 rw[Bool.eq_iff_iff]
 simp only[List.contains_eq_mem,decide_eq_true_eq,List.any_eq_true]
 exact⟨fun h=>⟨_,h,rfl⟩,fun⟨y,h1,h2⟩=>h2▸h1⟩
set_option maxHeartbeats 2000000 in
theorem e_TrapOf_l0(b:WBook)(hc:CopyB b)(l:List Int)(hl:l.length<1000000)(s:Stk):
 Run T b68l0 [(1, .sl .no 1 (es cInt l)),(2, .ptr s.length 32 0),(4, .ptr s.length 64 0),(5, .ptr s.length 80 0),(6,i64 0)] (trpF b s.length [] []::s)=
  some (.exit 0,[(1, .sl .no 1 (es cInt l)),(2, .ptr s.length 32 0),(4, .ptr s.length 64 0),(5, .ptr s.length 80 0),(6,i64 b.trap.words.length),(16, .bool false)],trpF b s.length [] (b.trap.words.filter (soberW l))::s):=by
 have hw:=hc.trap.words
 have key:=loop_fold (T:=T) (live:=[1,2,4,5,6]) (keep:=[32,64,80,85,144,1144,2144,3144,4144,5144,6144,7144,8144]) (b:=d68l0) b.trap.words (fun k (a:List CWord)=>a.length≤k) (pickW l)
  (fun k _=>[(1, .sl .no 1 (es cInt l)),(2, .ptr s.length 32 0),(4, .ptr s.length 64 0),(5, .ptr s.length 80 0),(6,i64 (k:Nat))]) (fun _ a=>trpF b s.length [] a::s)
  (fun a=>(.exit 0,[(1, .sl .no 1 (es cInt l)),(2, .ptr s.length 32 0),(4, .ptr s.length 64 0),(5, .ptr s.length 80 0),(6,i64 b.trap.words.length),(16, .bool false)],trpF b s.length [] a::s))
  (by simp) ?_ ?_ ?_ [] (by simp) [(1, .sl .no 1 (es cInt l)),(2, .ptr s.length 32 0),(4, .ptr s.length 64 0),(5, .ptr s.length 80 0),(6,i64 0)] (trpF b s.length [] []::s) (by simp) (by simp[trpF])
 ·rw[pickW_fold,List.nil_append]at key
  exact key
 ·intro k a hk hi
  have hk2:(k:Int)<b.trap.words.length:=by omega
  have e0: ∀w:CWord,es cWord a ++[[i64 w.time,i64 w.chamber,i64 w.lo,i64 w.hi]]=es cWord (a ++[w]):=fun w=>by simp[es]
  have i1: ∀lab s,den T 46 [.sl .no 1 (es cInt l),i64 b.trap.words[k].time] lab s=some (.bool (!soberW l b.trap.words[k]),s):=fun lab s=>by rw[e_In l _ (by omega) lab s];simp[soberW]
  have e1:=e0 b.trap.words[k]
  unfold pickW
  cases h:soberW l b.trap.words[k]
  ·rw[h]at i1
   simp (maxSteps:=1000000) (disch:=first|omega|assumption|decide +kernel|(simp;done)|(simp;omega)|fail) [trpF,hk,hk2,i1,-e_In,h,wk k (by omega)]
  ·rw[h]at i1
   simp (maxSteps:=1000000) (disch:=first|omega|assumption|decide +kernel|(simp;done)|(simp;omega)|fail) [run_drawnK,trpF,hk,hk2,i1,-e_In,h,e1,appK_own1,wk k (by omega)]
 ·intro k a hk hi
  unfold pickW
  split<;>(try simp only[List.length_append,List.length_cons,List.length_nil])<;>omega
 ·intro a hi
  simp[trpF]
set_option maxHeartbeats 2000000 in
theorem e_TrapOf_l1(b:WBook)(hc:CopyB b)(l:List Int)(hl:l.length<1000000)(s:Stk):
 Run T b68l0 [(1, .sl .no 1 (es cInt l)),(2, .ptr s.length 32 0),(4, .ptr s.length 64 0),(5, .ptr s.length 80 0),(6,i64 0)] (trpF b s.length [(1144, .tok b.trap.words.length)] []::s)=
  some (.exit 0,[(1, .sl .no 1 (es cInt l)),(2, .ptr s.length 32 0),(4, .ptr s.length 64 0),(5, .ptr s.length 80 0),(6,i64 b.trap.words.length),(16, .bool false)],trpF b s.length [(1144, .tok b.trap.words.length)] (b.trap.words.filter (soberW l))::s):=by
 have hw:=hc.trap.words
 have key:=loop_fold (T:=T) (live:=[1,2,4,5,6]) (keep:=[32,64,80,85,144,1144,2144,3144,4144,5144,6144,7144,8144]) (b:=d68l0) b.trap.words (fun k (a:List CWord)=>a.length≤k) (pickW l)
  (fun k _=>[(1, .sl .no 1 (es cInt l)),(2, .ptr s.length 32 0),(4, .ptr s.length 64 0),(5, .ptr s.length 80 0),(6,i64 (k:Nat))]) (fun _ a=>trpF b s.length [(1144, .tok b.trap.words.length)] a::s)
  (fun a=>(.exit 0,[(1, .sl .no 1 (es cInt l)),(2, .ptr s.length 32 0),(4, .ptr s.length 64 0),(5, .ptr s.length 80 0),(6,i64 b.trap.words.length),(16, .bool false)],trpF b s.length [(1144, .tok b.trap.words.length)] a::s))
  (by simp) ?_ ?_ ?_ [] (by simp) [(1, .sl .no 1 (es cInt l)),(2, .ptr s.length 32 0),(4, .ptr s.length 64 0),(5, .ptr s.length 80 0),(6,i64 0)] (trpF b s.length [(1144, .tok b.trap.words.length)] []::s) (by simp) (by simp[trpF])
 ·rw[pickW_fold,List.nil_append]at key
  exact key
 ·intro k a hk hi
  have hk2:(k:Int)<b.trap.words.length:=by omega
  have e0: ∀w:CWord,es cWord a ++[[i64 w.time,i64 w.chamber,i64 w.lo,i64 w.hi]]=es cWord (a ++[w]):=fun w=>by simp[es]
  have i1: ∀lab s,den T 46 [.sl .no 1 (es cInt l),i64 b.trap.words[k].time] lab s=some (.bool (!soberW l b.trap.words[k]),s):=fun lab s=>by rw[e_In l _ (by omega) lab s];simp[soberW]
  have e1:=e0 b.trap.words[k]
  unfold pickW
  cases h:soberW l b.trap.words[k]
  ·rw[h]at i1
   simp (maxSteps:=1000000) (disch:=first|omega|assumption|decide +kernel|(simp;done)|(simp;omega)|fail) [trpF,hk,hk2,i1,-e_In,h,wk k (by omega)]
  ·rw[h]at i1
   simp (maxSteps:=1000000) (disch:=first|omega|assumption|decide +kernel|(simp;done)|(simp;omega)|fail) [run_drawnK,trpF,hk,hk2,i1,-e_In,h,e1,appK_own1,wk k (by omega)]
 ·intro k a hk hi
  unfold pickW
  split<;>(try simp only[List.length_append,List.length_cons,List.length_nil])<;>omega
 ·intro a hi
  simp[trpF]
set_option maxHeartbeats 2000000 in
theorem e_TrapOf(b:WBook)(hc:CopyB b)(l:List Int)(hl:l.length<1000000)(lab s):den T 68 [.agg (vB b), .sl .no 1 (es cInt l)] lab s=some (.agg (vT (trapOf b l)),s):=by
 obtain⟨h1,h2,h3⟩:=hc.trap
 have hs:=hc.trap.short
 rw[trapOf_pick]
 by_cases hw:b.trap.words=[]
 ·have hC:=fun(loc:Ab.Loc) lab k0=>e_Copy01_0 b.trap hs h1 h3 hw loc s lab k0
  have hl0:=e_TrapOf_l0 b hc l hl s
  simp only[trpF,es_nil,List.nil_append,List.length_nil]at hl0
  rw[den_fn t68 _ _ _ rfl]
  simp only[b68]
  simp (maxSteps:=6000000) (disch:=first|omega|assumption|decide +kernel|(simp;done)|(simp;omega)|fail) [hC,hl0]
 ·have hC:=fun(loc:Ab.Loc) lab k0 k1=>e_Copy01_1 b.trap hs h1 h2 h3 hw loc s lab k0 k1
  have hl1:=e_TrapOf_l1 b hc l hl s
  simp only[trpF,es_nil,List.nil_append,List.length_nil,List.cons_append]at hl1
  rw[den_fn t68 _ _ _ rfl]
  simp only[b68]
  simp (maxSteps:=6000000) (disch:=first|omega|assumption|decide +kernel|(simp;done)|(simp;omega)|fail) [hC,hl1]
end Go.Proofs.YthghcainodgnkaaGreat

/-
  Watch: the reference's lists.
-/
namespace Go.Proofs.YthghcainodgnkaaGreat
open Go.Ab
end Go.Proofs.YthghcainodgnkaaGreat

/-
  Watch: the reference's stories (not built yet).
-/
namespace Go.Proofs.YthghcainodgnkaaGreat
open Go.Ab
theorem bookB_trap {b:WBook}(h:bookB b=true):trapB b.trap=true:=by
 simp only[bookB,Bool.and_eq_true]at h;exact h.1
theorem bookB_ok {b:WBook}(h:bookB b=true):BookOk b:=by
 simp only[bookB,Bool.and_eq_true,wiB_iff]at h
 obtain⟨h1,h2,h3,h4⟩:=h
 obtain⟨r1,r2⟩:=rising_iff.1 h4
 have hok:=trapB_ok h1
 have htt:=hok.tt
 refine⟨hok,h2,h3,allL_mem.2 ⟨r1,fun y hy=> ?_⟩⟩
 have:=r2 y hy
 have e:b.T=b.trap.times.toNat:=rfl
 omega
theorem e_IsStory(b:WBook)(hB:bookB b=true)(hc:CopyB b)(l:List Int)(hl:l.length<1000000)(lab s):den T 57 [.agg (vB b), .sl .no 1 (es cInt l)] lab s=some (.bool (canR b l&&isOneB (trapOf b l)),s):=by
 have ht:=bookB_trap hB
 have htt:=(trapB_ok ht).tt
 have h1:=fun lab s=>e_CanBe b hc (by omega) (trapB_mid ht) l hl lab s
 have h2:=fun lab s=>e_TrapOf b hc l hl lab s
 have h3:=fun lab s=>e_IsOne (trapOf b l) (trapOf_ok (bookB_ok hB) l) (fun l hl=>trapB_open ht l hl) lab s
 rw[den_fn t57 _ _ _ rfl]
 simp only[b57]
 cases c:canR b l
 ·simp (maxSteps:=1000000) (disch:=first|omega|assumption|decide +kernel|(simp;done)|(simp;omega)|fail) [h1,c]
 ·generalize trapOf b l=t at*
  simp (maxSteps:=1000000) (disch:=first|omega|assumption|decide +kernel|(simp;done)|(simp;omega)|fail) [h1,h2,h3,c]
end Go.Proofs.YthghcainodgnkaaGreat

/-
  Watch: the reference's known, Stories, Least, Good, Drunk.
-/
namespace Go.Proofs.YthghcainodgnkaaGreat
open Go.Ab
def open11(b:WBook)(is:Bool):Int:=if ask11 b is=0 then(if storiesL b=[]then 3 else 0)else ask11 b is
theorem ask11_ok {b:WBook} {is:Bool}(h:ask11 b is=0):bookB b=true∧is=true:=by
 unfold ask11 at h
 cases h1:bookB b
 ·rw[h1]at h;simp at h
 ·cases is
  ·rw[h1]at h;simp at h
  ·exact⟨rfl,rfl⟩
theorem open11_ok {b:WBook} {is:Bool}(h:open11 b is=0):bookB b=true∧is=true∧storiesL b≠[]:=by
 unfold open11 at h
 by_cases h1:ask11 b is=0
 ·rw[if_pos h1]at h
  obtain⟨k1,k2⟩:=ask11_ok h1
  refine⟨k1,k2,fun e=> ?_⟩
  rw[if_pos e]at h;simp at h
 ·rw[if_neg h1]at h;exact absurd h h1
theorem stories_len {b:WBook}(h:bookB b=true):(storiesL b).length≤65536∧ ∀l,l∈storiesL b→l.length≤5∧l.Pairwise (· < ·)∧ ∀y,y∈l→0≤y∧y<b.T:=by
 have hok:=bookB_ok h
 have hdr:=hok.drunk
 have htt:=hok.trap.tt
 have eT:b.T=b.trap.times.toNat:=rfl
 constructor
 ·have hs:(storiesL b).length≤(allL b.T).length:=List.length_filter_le ..
  have ha: ∀n,n<6→(allL n).length≤65536:=by decide +kernel
  have:=ha b.T (by omega)
  omega
 ·intro l hl
  rw[storiesL_at]at hl
  obtain⟨m,hm,hl⟩:=List.mem_flatMap.1 hl
  have hm:=List.mem_range.1 hm
  obtain⟨q1,q2,q3⟩:=listsP_in (List.mem_filter.1 hl).1
  exact⟨by omega,q2,q3⟩
end Go.Proofs.YthghcainodgnkaaGreat

/-
  Watch: the reference's with, Drunk, Must, Ask.
-/
namespace Go.Proofs.YthghcainodgnkaaGreat
open Go.Ab
theorem in_contains(l:List Int)(n:Int):anyB (fun x=>decide (x=n)) l=l.contains n:=by
 rw[Bool.eq_iff_iff]
 simp only[anyB,List.any_eq_true,decide_eq_true_eq,List.contains_eq_mem]
 exact⟨fun⟨y,h1,h2⟩=>h2▸h1,fun h=>⟨_,h,rfl⟩⟩
end Go.Proofs.YthghcainodgnkaaGreat

/-
  Watch: the reference's Must, Ask.
-/
namespace Go.Proofs.YthghcainodgnkaaGreat
open Go.Ab
end Go.Proofs.YthghcainodgnkaaGreat

/-
  Watch: the reference's Lies.
-/
namespace Go.Proofs.YthghcainodgnkaaGreat
open Go.Ab
theorem trapB_less {b:WBook}(h:trapB b.trap=true)(l:List Int):trapB (trapOf b l)=true:=by
 have hl:(trapOf b l).words.length≤b.trap.words.length:=List.length_filter_le ..
 simp only[trapB,Bool.and_eq_true,decide_eq_true_eq,allB,List.all_eq_true]at h⊢
 refine⟨h.1,h.2.1,h.2.2.1,by omega,h.2.2.2.2.1,fun w hw=>h.2.2.2.2.2 w (List.mem_filter.1 hw).1⟩
theorem story_one {b:WBook} {l:List Int}(h:l∈storiesL b):isOneB (trapOf b l)=true:=by
 have:=(List.mem_filter.1 h).2
 simp only[storyB,Bool.and_eq_true]at this
 exact this.2
theorem judge_story {b:WBook}(hB:bookB b=true) {l:List Int}(hl:l∈storiesL b) {w:CWord}(hw:w∈b.trap.words):judgeC (trapOf b l) w=(judgeW b l w,0):=by
 have ht:=bookB_trap hB
 have hw2:wordOk (trapOf b l) w=true:=(trapB_ok ht).word w hw
 have ho:openT (trapOf b l) (wordOk (trapOf b l) w)=0:=by rw[openT_of (trapB_less ht l),hw2,story_one hl];rfl
 unfold judgeC judgeW
 rw[if_pos ho]
def liesV11(b:WBook)(n:Int):Int×Int:=if open11 b (wiB n 0 ((b.trap.words.length:Int)-1))=0 then(liesV b (wordAt b n),0)else(0,open11 b (wiB n 0 ((b.trap.words.length:Int)-1)))
end Go.Proofs.YthghcainodgnkaaGreat

/-
  Watch: the reference's Fish.
-/
namespace Go.Proofs.YthghcainodgnkaaGreat
open Go.Ab
theorem trapOf_open {b:WBook}(hB:bookB b=true)(l:List Int): ∀x,x∈(trapOf b l).opn→x.length<4611686018427387904:=fun x hx=>trapB_open (bookB_trap hB) x hx
def fishV11(b:WBook)(i c:Int):CSp×Int:=if open11 b (placeB b.trap i c)=0 then(spanW b i.toNat c.toNat i.toNat (c.toNat+1),0)else(⟨0,0⟩,open11 b (placeB b.trap i c))
end Go.Proofs.YthghcainodgnkaaGreat

/-
  Watch: the reference's Came.
-/
namespace Go.Proofs.YthghcainodgnkaaGreat
open Go.Ab
end Go.Proofs.YthghcainodgnkaaGreat

/-
  Watch: the reference's WithoutAll.
-/
namespace Go.Proofs.YthghcainodgnkaaGreat
open Go.Ab
end Go.Proofs.YthghcainodgnkaaGreat

/-
  Watch: the reference's TimesOf, AreFalse.
-/
namespace Go.Proofs.YthghcainodgnkaaGreat
open Go.Ab
end Go.Proofs.YthghcainodgnkaaGreat

/-
  Watch: the reference's AreFalse.
-/
namespace Go.Proofs.YthghcainodgnkaaGreat
open Go.Ab
end Go.Proofs.YthghcainodgnkaaGreat

/-
  Watch: the reference's Blame (not built yet).
-/
namespace Go.Proofs.YthghcainodgnkaaGreat
open Go.Ab
def optQ {α ρ:Type}(q:α→ρ)(fin:ρ):Option α→ρ
 |some x=>q x
 |none=>fin
end Go.Proofs.YthghcainodgnkaaGreat

/-
  Watch: the reference's Blame, whole (not built yet).
-/
namespace Go.Proofs.YthghcainodgnkaaGreat
open Go.Ab
def findL {α β ρ:Type}(F:α→List β)(p:β→Bool)(q:β→ρ)(a:Unit)(m:α):Unit⊕ρ:=optQ (fun x=> .inr (q x)) (.inl a) ((F m).find? p)
theorem foldS_flat {α β ρ:Type}(F:α→List β)(p:β→Bool)(q:β→ρ)(fin:ρ): ∀l:List α,foldS (findL F p q) (fun _=>fin) l ()=optQ q fin ((l.flatMap F).find? p)
 |[]=>rfl
 |m::l=>by
   have ih:=foldS_flat F p q fin l
   rw[List.flatMap_cons,List.find?_append]
   simp only[foldS,findL]at ih⊢
   cases (F m).find? p with
   |some x=>rfl
   |none=>exact ih
end Go.Proofs.YthghcainodgnkaaGreat

/-
  Watch: the reference's Blame, False.
-/
namespace Go.Proofs.YthghcainodgnkaaGreat
open Go.Ab
end Go.Proofs.YthghcainodgnkaaGreat

/-
  Watch: guesses (not built yet).
-/
namespace Go.Proofs.YthghcainodgnkaaGreat
open Go.Ab
theorem e_gHas(g n:Nat)(hg:g<32)(hn:n<64)(lab s):den T 119 [.int .u64 (g:Nat),i64 n] lab s=some (.bool (g.testBit n),s):=by
 have h1:((g:Int)).fdiv (2^min n IntKind.u64.bits)=((g>>>n:Nat):Int):=by
  rw[show min n IntKind.u64.bits=n by have:IntKind.u64.bits=64:=rfl;omega,Nat.shiftRight_eq_div_pow]
  rw[Int.fdiv_eq_ediv_of_nonneg _ (by exact Int.le_of_lt (Int.pow_pos (by decide)))]
  push_cast
  rfl
 have h2: ¬(n:Int)<0:=by omega
 rw[den_fn t119 _ _ _ rfl]
 simp only[b119]
 simp (disch:=first|omega|assumption|decide +kernel|(simp;done)|(simp;omega)|fail) [h1,h2]
 have e:((g:Int)>>>n)=((g>>>n:Nat):Int):=rfl
 have hb:g>>>n≤g:=by rw[Nat.shiftRight_eq_div_pow];exact Nat.div_le_self ..
 have hbits:(2:Int)^IntKind.u64.bits=18446744073709551616:=by decide
 have ht:g.testBit n=decide ((g>>>n)%2=1):=by rw[Nat.testBit_eq_decide_div_mod_eq,Nat.shiftRight_eq_div_pow]
 rw[e,ht,hbits]
 generalize g>>>n=h at*
 have e3:max ((h:Int)%18446744073709551616) 0%2=((h%2:Nat):Int):=by omega
 rw[e3]
 rcases Nat.mod_two_eq_zero_or_one h with h0|h0<;>rw[h0]<;>decide
end Go.Proofs.YthghcainodgnkaaGreat

/-
  Watch: the program's Check (not built yet).
-/
namespace Go.Proofs.YthghcainodgnkaaGreat
open Go.Ab
theorem e_isTimeW(b:WBook)(hm:Mid b.trap)(i:Int)(lab s):den T 99 [.agg (vB b),i64 i] lab s=some (.bool (wiB i 0 (b.trap.times-1)),s):=by
 obtain⟨_,h1,h2⟩:=hm
 have w1:IntKind.i64.wrap (b.trap.times-1)=b.trap.times-1:=wi _ (by omega) (by omega)
 rw[den_fn t99 _ _ _ rfl]
 simp only[b99]
 simp (disch:=first|omega|assumption|decide +kernel|(simp;done)|(simp;omega)|fail) [w1]
set_option maxHeartbeats 1000000 in
theorem e_areTimes_l(t:CTrap)(hm:Mid t)(l:List Int)(hl:l.length<4611686018427387904)(s:Stk):
 Run T b90l0 [(1, .sl .no 1 (es cInt l)),(2, .ptr s.length 32 0),(7, .sl .no 1 (es cInt l)),(8,i64 l.length),(9,i64 0)] ([(32, .cell (vT t))]::s)=
  if rising l 0 (t.times-1)=true then some (.exit 0,[(1, .sl .no 1 (es cInt l)),(2, .ptr s.length 32 0),(7, .sl .no 1 (es cInt l)),(8,i64 l.length),(9,i64 l.length),(10, .bool false)],[(32, .cell (vT t))]::s)
  else some (.ret,[(4, .bool false)],[(32, .cell (vT t))]::s):=by
 obtain⟨_,m1,m2⟩:=hm
 have w1:IntKind.i64.wrap (t.times-1)=t.times-1:=wi _ (by omega) (by omega)
 refine(loop_all (List.range l.length) (risingAt l 0 (t.times-1)) (fun k=>[(1, .sl .no 1 (es cInt l)),(2, .ptr s.length 32 0),(7, .sl .no 1 (es cInt l)),(8,i64 l.length),(9,i64 k)]) (fun _=>[(32, .cell (vT t))]::s) (.ret,[(4, .bool false)],[(32, .cell (vT t))]::s) (.exit 0,[(1, .sl .no 1 (es cInt l)),(2, .ptr s.length 32 0),(7, .sl .no 1 (es cInt l)),(8,i64 l.length),(9,i64 ((List.range l.length).length:Nat)),(10, .bool false)],[(32, .cell (vT t))]::s) (by simp) (by simp) ?_ (by simp) _ _ (by simp) (by simp)).trans (by simp only[List.length_range];rfl)
 intro k hk
 simp only[List.length_range]at hk
 simp only[List.getElem_range]
 have hg:l.getD k 0=l[k]:=by simp[List.getD,hk]
 have hk2:(k:Int)<l.length:=by omega
 cases h0:wiB l[k] 0 (t.times-1)
 ·simp (disch:=first|omega|assumption|decide +kernel|(simp;done)|(simp;omega)|fail) [hk,hk2,h0,w1,risingAt]
 by_cases h1:k=0
 ·subst h1
  simp (disch:=first|omega|assumption|decide +kernel|(simp;done)|(simp;omega)|fail) [hk,hk2,h0,w1,risingAt,wi]
 have hk1:k-1<l.length:=by omega
 have h1p:0<k:=by omega
 have h1q:(1:Int)≤k:=by omega
 have hg1:l.getD (k-1) 0=l[k-1]:=by simp[List.getD,hk1]
 have hn:((k:Int)-1).toNat=k-1:=by omega
 have wk1:IntKind.i64.wrap ((k:Int)-1)=(k:Int)-1:=wi _ (by omega) (by omega)
 have wk2:IntKind.i64.wrap ((k:Int)+1)=(k:Int)+1:=wi _ (by omega) (by omega)
 have hlt:(k:Int)-1<l.length:=by omega
 by_cases h2:l[k-1]<l[k]
 ·have h3: ¬l[k]≤l[k-1]:=by omega
  simp (disch:=first|omega|assumption|decide +kernel|(simp;done)|(simp;omega)|fail) [hk,hk2,hk1,h0,w1,h1,h1p,h1q,h2,h3,hn,hlt,wk1,wk2,risingAt]
 ·have h3:l[k]≤l[k-1]:=by omega
  simp (disch:=first|omega|assumption|decide +kernel|(simp;done)|(simp;omega)|fail) [hk,hk2,hk1,h0,w1,h1,h1p,h1q,h2,h3,hn,hlt,wk1,wk2,risingAt]
theorem e_areTimes(t:CTrap)(hm:Mid t)(l:List Int)(hl:l.length<4611686018427387904)(lab s):den T 90 [.agg (vT t), .sl .no 1 (es cInt l)] lab s=some (.bool (rising l 0 (t.times-1)),s):=by
 have h:=e_areTimes_l t hm l hl s
 rw[den_fn t90 _ _ _ rfl]
 simp only[b90]
 cases hr:rising l 0 (t.times-1)
 ·rw[hr,if_neg (by simp)]at h
  simp (disch:=first|omega|assumption|decide +kernel|(simp;done)|(simp;omega)|fail) [h]
 ·rw[hr,if_pos rfl]at h
  simp (disch:=first|omega|assumption|decide +kernel|(simp;done)|(simp;omega)|fail) [h]
end Go.Proofs.YthghcainodgnkaaGreat

/-
  Watch: the program's Check.
-/
namespace Go.Proofs.YthghcainodgnkaaGreat
open Go.Ab
theorem e_CheckW(b:WBook)(hc:CopyB b)(lab s):den T 39 [.agg (vB b)] lab s=some (i64 (if bookB b=true then 0 else 110),s):=by
 have h:=fun lab s=>e_Check1C b.trap hc.trap.short lab s
 have h1:=hc.sober
 unfold bookB
 rw[den_fn t39 _ _ _ rfl]
 simp only[b39]
 cases c1:trapB b.trap
 ·simp (maxSteps:=1000000) (disch:=first|omega|assumption|decide +kernel|(simp;done)|(simp;omega)|fail) [h,c1]
 have hm:=trapB_mid c1
 have ha:=fun lab s=>e_areTimes b.trap hm b.sober (by omega) lab s
 cases c2:wiB b.drunk 0 5
 ·simp (maxSteps:=1000000) (disch:=first|omega|assumption|decide +kernel|(simp;done)|(simp;omega)|fail) [h,c1,c2]
 cases c3:wiB b.run 0 5
 ·simp (maxSteps:=1000000) (disch:=first|omega|assumption|decide +kernel|(simp;done)|(simp;omega)|fail) [h,c1,c2,c3]
 cases c4:rising b.sober 0 (b.trap.times-1)<;>simp (maxSteps:=1000000) (disch:=first|omega|assumption|decide +kernel|(simp;done)|(simp;omega)|fail) [h,c1,c2,c3,c4,ha]
end Go.Proofs.YthghcainodgnkaaGreat

/-
  Watch: guessOf (not built yet).
-/
namespace Go.Proofs.YthghcainodgnkaaGreat
open Go.Ab
theorem or_word: ∀a,a<32→ ∀n,n<5→IntKind.u64.wrap ((a%2^IntKind.u64.bits|||(IntKind.u64.wrap (2^min n IntKind.u64.bits)%2^IntKind.u64.bits).toNat:Nat):Int)=((a|||1<<<n:Nat):Int):=by decide +kernel
theorem or_lt: ∀a,a<32→ ∀n,n<5→a|||1<<<n<32:=by decide +kernel
def orBit(g:Nat)(n:Int):Nat:=g|||(1<<<n.toNat)
theorem e_guessOf_l(l:List Int)(hl:l.length<1000000)(hin: ∀n,n∈l→0≤n∧n<5)(s:Stk):
 Run T b93l0 [(2, .int .u64 0),(5, .sl .no 1 (es cInt l)),(6,i64 l.length),(7,i64 0)] ([]::s)=some (.exit 0,[(2, .int .u64 (((l).foldl (orBit) 0):Nat)),(5, .sl .no 1 (es cInt l)),(6,i64 l.length),(7,i64 ((l).length:Nat)),(8, .bool false)],[]::s):=by
 have key:=loop_fold (T:=T) (live:=[2,5,6,7]) (keep:=[]) (b:=d93l0) (l) (fun _ g=>g<32) (orBit) (fun k (a:Nat)=>[(2, .int .u64 (a:Nat)),(5, .sl .no 1 (es cInt l)),(6,i64 l.length),(7,i64 (k:Nat))]) (fun k (a:Nat)=>[]::s) (fun(a:Nat)=>(.exit 0,[(2, .int .u64 (a:Nat)),(5, .sl .no 1 (es cInt l)),(6,i64 l.length),(7,i64 ((l).length:Nat)),(8, .bool false)],[]::s)) (by simp) ?_ ?_ ?_ 0 (by simp) [(2, .int .u64 0),(5, .sl .no 1 (es cInt l)),(6,i64 l.length),(7,i64 0)] ([]::s) (by simp) (by simp)
 ·exact key
 ·intro k a hk hi
  have hk2:(k:Int)<l.length:=by omega
  have hb:=hin _ (List.getElem_mem hk)
  unfold orBit
  generalize hx:l[k]=x at*
  obtain⟨n,rfl⟩: ∃n:Nat,x=n:=⟨x.toNat,by omega⟩
  have hn: ¬(n:Int)<0:=by omega
  simp (maxSteps:=1000000) (disch:=first|omega|assumption|decide +kernel|(simp;done)|(simp;omega)|fail) [hk,hk2,hx,hn,or_word a hi n (by omega),wk k (by omega)]
 ·intro k a hk hi
  have hb:=hin _ (List.getElem_mem hk)
  exact or_lt a hi _ (by omega)
 ·intro a hi
  simp
theorem e_guessOf(l:List Int)(hl:l.length<1000000)(hin: ∀n,n∈l→0≤n∧n<5)(lab s):den T 93 [.sl .no 1 (es cInt l)] lab s=some (.int .u64 (maskL l:Nat),s):=by
 have h:=e_guessOf_l l hl hin s
 rw[show l.foldl orBit 0=maskL l from rfl]at h
 generalize maskL l=m at*
 rw[den_fn t93 _ _ _ rfl]
 simp only[b93]
 simp (disch:=first|omega|assumption|decide +kernel|(simp;done)|(simp;omega)|fail) [h]
end Go.Proofs.YthghcainodgnkaaGreat

/-
  Watch: guess.run.
-/
namespace Go.Proofs.YthghcainodgnkaaGreat
open Go.Ab
theorem shl_word: ∀g:Nat,g<32→IntKind.u64.wrap ((g%2^IntKind.u64.bits&&&(IntKind.u64.wrap ((g:Int)*2)%2^IntKind.u64.bits).toNat:Nat):Int)=((g&&&(g<<<1):Nat):Int):=by decide +kernel
def runD:Nat→Nat→Bool
 |0,g=>g==0
 |f+1,g=>g==0||runD f (g&&&(g<<<1))
theorem runD_all: ∀g,g<32→runD 5 g=true:=by decide +kernel
theorem and_shl_lt: ∀g,g<32→g&&&(g<<<1)<32:=by decide +kernel
theorem e_run_0(c:Nat)(s:Stk):Run T b151l0 [(0, .int .u64 0),(3,i64 (c:Nat))] ([]::s)=some (.exit 0,[(0, .int .u64 0),(3,i64 (c:Nat)),(5, .bool false)],[]::s):=by
 unfold b151l0
 rw[run_head (e':=[(0, .int .u64 0),(3,i64 (c:Nat))]) (s':=[]::s) _ _ _ _ _ (by simp) (by simp)]
 simp (maxSteps:=1000000) (disch:=first|omega|assumption|decide +kernel|(simp;done)|(simp;omega)|fail) []
theorem e_run_s(g:Nat)(hg:g<32)(h0:g≠0)(c:Nat)(hc:c<100)(s:Stk):
 Run T b151l0 [(0, .int .u64 (g:Nat)),(3,i64 (c:Nat))] ([]::s)=Run T b151l0 [(0, .int .u64 (g&&&(g<<<1):Nat)),(3,i64 ((c+1:Nat):Int))] ([]::s):=by
 have h1: ¬(g:Int)=0:=by omega
 conv=>lhs;unfold b151l0
 rw[run_head (e':=[(0, .int .u64 (g:Nat)),(3,i64 (c:Nat))]) (s':=[]::s) _ _ _ _ _ (by simp) (by simp)]
 have:Run T d151l0 [(0, .int .u64 (g:Nat)),(3,i64 (c:Nat))] ([]::s)=some (.normal,[(0, .int .u64 (g&&&(g<<<1):Nat)),(3,i64 ((c+1:Nat):Int))],[]::s):=by
  simp (maxSteps:=1000000) (disch:=first|omega|assumption|decide +kernel|(simp;done)|(simp;omega)|fail) [h1,h0,shl_word g hg,wk c (by omega)]
 rw[this,thenRun_normal]
 rfl
theorem e_run_l(s:Stk): ∀f g,g<32→runD f g=true→ ∀c:Nat,c+f<100→Run T b151l0 [(0, .int .u64 (g:Nat)),(3,i64 (c:Nat))] ([]::s)=some (.exit 0,[(0, .int .u64 0),(3,i64 ((c+runN (f+1) g:Nat):Int)),(5, .bool false)],[]::s)
 |0,g,_,h,c,_=>by
   have:g=0:=by simpa [runD]using h
   subst this
   exact e_run_0 c s
 |f+1,g,hg,h,c,hc=>by
   by_cases h0:g=0
   ·subst h0
    have:runN (f+2) 0=0:=by simp[runN]
    rw[this]
    exact e_run_0 c s
   ·have h2:runD f (g&&&(g<<<1))=true:=by
     simp only[runD,Bool.or_eq_true,beq_iff_eq]at h
     exact h.resolve_left h0
    rw[e_run_s g hg h0 c (by omega) s,e_run_l s f _ (and_shl_lt g hg) h2 (c+1) (by omega)]
    have:runN (f+1+1) g=runN (f+1) (g&&&(g<<<1))+1:=by conv=>lhs;unfold runN;rw[if_neg h0]
    rw[this,show c+1+runN (f+1) (g&&&g<<<1)=c+(runN (f+1) (g&&&g<<<1)+1)by omega]
theorem e_run(g:Nat)(hg:g<32)(lab s):den T 151 [.int .u64 (g:Nat)] lab s=some (i64 (runN 6 g:Nat),s):=by
 have h:=e_run_l s 5 g hg (runD_all g hg) 0 (by omega)
 rw[Nat.zero_add]at h
 generalize runN 6 g=r at*
 simp only[Int.natCast_zero]at h
 rw[den_fn t151 _ _ _ rfl]
 simp only[b151]
 simp (disch:=first|omega|assumption|decide +kernel|(simp;done)|(simp;omega)|fail) [h]
end Go.Proofs.YthghcainodgnkaaGreat

/-
  Watch: how many times a guess has; whether it can be (not built yet).
-/
namespace Go.Proofs.YthghcainodgnkaaGreat
open Go.Ab
set_option maxHeartbeats 1000000 in
theorem e_ones(g:Nat)(hg:g<32)(lab s):den T 150 [.int .u64 (g:Nat)] lab s=some (i64 ((bitsL g).length:Nat),s):=by
 have h1: ∀lab s,den T 162 [.int .u64 (g:Nat)] lab s=some (i64 ((bitsL g).length:Nat),s):=by
  intro lab s
  rw[den_fn t162 _ _ _ rfl]
  simp only[b162]
  simp (maxSteps:=1000000) (disch:=first|omega|assumption|decide +kernel|(simp;done)|(simp;omega)|fail) []
  revert g
  decide +kernel
 rw[den_fn t150 _ _ _ rfl]
 simp only[b150]
 simp (disch:=first|omega|assumption|decide +kernel|(simp;done)|(simp;omega)|fail) [h1]
end Go.Proofs.YthghcainodgnkaaGreat

/-
  Watch: canBe (not built yet).
-/
namespace Go.Proofs.YthghcainodgnkaaGreat
open Go.Ab
abbrev vK(b:WBook)(st:V):List V:=[i64 b.trap.chambers,i64 b.trap.times, .sl .no 1 (es cInts b.trap.opn), .sl .no 4 (es cWord b.trap.words),i64 b.drunk,i64 b.run, .sl .no 1 (es cInt b.sober),st]
theorem and_word: ∀g,g<32→ ∀m,m<32→IntKind.u64.wrap ((g%2^IntKind.u64.bits&&&m%2^IntKind.u64.bits:Nat):Int)=((g&&&m:Nat):Int):=by decide +kernel
theorem maskL_lt5 {l:List Int}(h:l∈allL 5):maskL l<32:=mask_lt 5 (by decide) l h
theorem allL5_in {l:List Int}(h:l∈allL 5):l.length<1000000∧ ∀n,n∈l→0≤n∧n<5:=by
 obtain⟨h1,h2⟩:=allL_mem.1 h
 have:=pair_lenL (lo:=0) h1 h2
 exact⟨by omega,h2⟩
set_option maxHeartbeats 1000000 in
theorem e_canBe(b:WBook)(st:V)(g:Nat)(hg:g<32)(hs5:b.sober∈allL 5)(d l:Nat)(s:Stk)(hd: ¬d=s.length)(h:sget s d l=some (.cell (vK b st)))(lab):
 den T 121 [.ptr d l 0, .int .u64 (g:Nat)] lab s=some (.bool (canG b g),s):=by
 have h1:=fun lab s=>e_ones g hg lab s
 have h2:=fun lab s=>e_run g hg lab s
 obtain⟨q1,q2⟩:=allL5_in hs5
 have h3:=fun lab s=>e_guessOf b.sober q1 q2 lab s
 have hm:=maskL_lt5 hs5
 have hw:=and_word g hg (maskL b.sober) hm
 unfold canG
 rw[den_fn t121 _ _ _ rfl]
 simp only[b121]
 generalize maskL b.sober=m at*
 generalize (bitsL g).length=o at*
 generalize runN 6 g=r at*
 by_cases c1:(o:Int)≤b.drunk
 ·by_cases c2:(r:Int)≤b.run
  ·have c3:(((g&&&m:Nat):Int)=0)=(g&&&m=0):=by simp only[eq_iff_iff];omega
   simp (maxSteps:=1000000) (disch:=first|omega|assumption|decide +kernel|(simp;done)|(simp;omega)|fail) [run_drawnK,orSlow_none,hd,h,h1,h2,h3,hw,c1,c2,c3]
  ·simp (maxSteps:=1000000) (disch:=first|omega|assumption|decide +kernel|(simp;done)|(simp;omega)|fail) [run_drawnK,orSlow_none,hd,h,h1,h2,c1,c2]
 ·simp (maxSteps:=1000000) (disch:=first|omega|assumption|decide +kernel|(simp;done)|(simp;omega)|fail) [run_drawnK,orSlow_none,hd,h,h1,c1]
end Go.Proofs.YthghcainodgnkaaGreat

/-
  Watch: a trap without some words (not built yet).
-/
namespace Go.Proofs.YthghcainodgnkaaGreat
open Go.Ab
def keepW(ws:List CWord)(p:Nat→Bool):List CWord:=((List.range ws.length).filter fun k=> !p k).map fun k=>ws.getD k default
def keepF(ws:List CWord)(p:Nat→Bool)(a:List CWord)(k:Nat):List CWord:=if p k=true then a else a ++[ws.getD k default]
theorem keepF_fold(ws:List CWord)(p:Nat→Bool): ∀(l:List Nat) (a:List CWord),l.foldl (keepF ws p) a=a ++(l.filter fun k=> !p k).map fun k=>ws.getD k default
 |[],a=>by simp
 |k::l,a=>by
   rw[List.foldl_cons,keepF_fold ws p l,List.filter_cons]
   unfold keepF
   cases p k<;>simp
theorem keepW_fold(ws:List CWord)(p:Nat→Bool):(List.range ws.length).foldl (keepF ws p) []=keepW ws p:=by rw[keepF_fold,List.nil_append];rfl
theorem getD_range {α:Type} [Inhabited α](ws:List α):(List.range ws.length).map (fun k=>ws.getD k default)=ws:=by
 refine List.ext_getElem (by simp) fun k h1 h2=> ?_
 simp[List.getD,h2]
theorem keepW_filter(ws:List CWord)(q:CWord→Bool):keepW ws (fun k=>q (ws.getD k default))=ws.filter fun w=> !q w:=by
 unfold keepW
 conv=>rhs;rw[←getD_range ws]
 rw[List.filter_map]
 rfl
theorem zip_range {α:Type} [Inhabited α](ws:List α):ws.zipIdx=(List.range ws.length).map fun k=>(ws.getD k default,k):=by
 refine List.ext_getElem (by simp) fun k h1 h2=> ?_
 simp only[List.length_zipIdx]at h1
 simp[List.getD,h1]
theorem keepW_drop(t:CTrap)(ws:List Int): {t with words:=keepW t.words fun k=>ws.contains (k:Int)}=dropW t ws:=by
 unfold dropW keepW
 rw[zip_range,List.filter_map,List.map_map]
 rfl
theorem keepW_trap(b:WBook)(l:List Int): {b.trap with words:=keepW b.trap.words fun k=>l.contains (b.trap.words.getD k default).time}=trapOf b l:=by
 rw[keepW_filter b.trap.words fun w=>l.contains w.time]
 rfl
def wioF(b:WBook)(d:Nat)(a:List CWord):Ab.Loc:=[(64, .cell [i64 0,i64 0, .sl .full 1 [], .sl .full 4 []]),(80, .cell [i64 b.trap.chambers,i64 b.trap.times, .sl .no 1 (es cInts b.trap.opn), .sl (.own d 85) 4 (es cWord a)]),(85, .tok a.length)]
set_option maxHeartbeats 2000000 in
theorem e_without_l(b:WBook)(hwl:b.trap.words.length<1000000)(f:Nat)(cap:List V)(p:Nat→Bool)(s:Stk)(hc1:V.stripAll cap=cap)(hc2: ∀keep,V.mapAll (dropR s.length keep) cap=cap)
 (hF: ∀k,k<b.trap.words.length→ ∀(L:Ab.Loc) lab,den T f (i64 k::cap) lab (L::s)=some (.bool (p k),L::s)):
 Run T b123l0 [(1, .fn f [] cap),(4, .ptr s.length 64 0),(5, .ptr s.length 80 0),(19, .sl .no 4 (es cWord b.trap.words)),(20,i64 b.trap.words.length),(21,i64 0)] (wioF b s.length []::s)=
  some (.exit 0,[(1, .fn f [] cap),(4, .ptr s.length 64 0),(5, .ptr s.length 80 0),(19, .sl .no 4 (es cWord b.trap.words)),(20,i64 b.trap.words.length),(21,i64 b.trap.words.length),(22, .bool false)],wioF b s.length (keepW b.trap.words p)::s):=by
 have key:=loop_fold (T:=T) (live:=[1,4,5,19,20,21]) (keep:=[64,80,85]) (b:=d123l0) (List.range b.trap.words.length) (fun k (a:List CWord)=>a.length≤k) (keepF b.trap.words p)
  (fun k _=>[(1, .fn f [] cap),(4, .ptr s.length 64 0),(5, .ptr s.length 80 0),(19, .sl .no 4 (es cWord b.trap.words)),(20,i64 b.trap.words.length),(21,i64 (k:Nat))]) (fun _ a=>wioF b s.length a::s)
  (fun a=>(.exit 0,[(1, .fn f [] cap),(4, .ptr s.length 64 0),(5, .ptr s.length 80 0),(19, .sl .no 4 (es cWord b.trap.words)),(20,i64 b.trap.words.length),(21,i64 b.trap.words.length),(22, .bool false)],wioF b s.length a::s))
  (by simp) ?_ ?_ ?_ [] (by simp) [(1, .fn f [] cap),(4, .ptr s.length 64 0),(5, .ptr s.length 80 0),(19, .sl .no 4 (es cWord b.trap.words)),(20,i64 b.trap.words.length),(21,i64 0)] (wioF b s.length []::s) (by simp[hc2]) (by simp[wioF])
 ·rw[keepW_fold]at key
  exact key
 ·intro k a hk hi
  simp only[List.length_range]at hk
  simp only[List.getElem_range]
  have hk2:(k:Int)<b.trap.words.length:=by omega
  have e0: ∀w:CWord,es cWord a ++[[i64 w.time,i64 w.chamber,i64 w.lo,i64 w.hi]]=es cWord (a ++[w]):=fun w=>by simp[es]
  have e1:=e0 b.trap.words[k]
  have eg:b.trap.words.getD k default=b.trap.words[k]:=by simp[List.getD,hk]
  have h1:=hF k hk
  unfold keepF
  rw[eg]
  cases h:p k
  ·rw[h]at h1
   simp (maxSteps:=1000000) (disch:=first|omega|assumption|decide +kernel|(simp;done)|(simp;omega)|fail) [run_drawnK,wioF,hk,hk2,hc1,hc2,h1,e1,appK_own1,wk k (by omega)]
  ·rw[h]at h1
   simp (maxSteps:=1000000) (disch:=first|omega|assumption|decide +kernel|(simp;done)|(simp;omega)|fail) [wioF,hk,hk2,hc1,hc2,h1,wk k (by omega)]
 ·intro k a hk hi
  unfold keepF
  split<;>(try simp only[List.length_append,List.length_cons,List.length_nil])<;>omega
 ·intro a hi
  simp[wioF,hc2]
set_option maxHeartbeats 2000000 in
theorem e_without(b:WBook)(hwl:b.trap.words.length<1000000)(st:V)(d l f:Nat)(cap:List V)(p:Nat→Bool)(s:Stk)(hd: ¬d=s.length)(h:sget s d l=some (.cell (vK b st)))(hc1:V.stripAll cap=cap)(hc2: ∀keep,V.mapAll (dropR s.length keep) cap=cap)
 (hF: ∀k,k<b.trap.words.length→ ∀(L:Ab.Loc) lab,den T f (i64 k::cap) lab (L::s)=some (.bool (p k),L::s)) (lab):
 den T 123 [.ptr d l 0, .fn f [] cap] lab s=some (.agg (vT {b.trap with words:=keepW b.trap.words p}),s):=by
 have key:=e_without_l b hwl f cap p s hc1 hc2 hF
 simp only[wioF,es_nil,List.length_nil]at key
 rw[den_fn t123 _ _ _ rfl]
 simp only[b123]
 simp (maxSteps:=1000000) (disch:=first|omega|assumption|decide +kernel|(simp;done)|(simp;omega)|fail) [hd,h,key]
end Go.Proofs.YthghcainodgnkaaGreat

/-
  Watch: the list of a guess (not built yet).
-/
namespace Go.Proofs.YthghcainodgnkaaGreat
open Go.Ab
def topN(g:Nat):Nat:=((List.range 6).find? fun n=>g>>>n==0).getD 6
def bitF(g:Nat)(a:List Int)(k:Nat):List Int:=if g.testBit k=true then a ++[(k:Int)]else a
theorem top_le: ∀g,g<32→topN g≤5:=by decide +kernel
theorem top_pos: ∀g,g<32→ ∀k,k<topN g→g>>>k≠0:=by
 intro g hg k hk
 have h5:=top_le g hg
 have: ∀g,g<32→ ∀k,k<5→k<topN g→g>>>k≠0:=by decide +kernel
 exact this g hg k (by omega) hk
theorem top_end: ∀g,g<32→g>>>(topN g)=0:=by decide +kernel
theorem top_bits: ∀g,g<32→(List.range (topN g)).foldl (bitF g) []=bitsL g:=by decide +kernel
theorem shr_word {g n:Nat}(hn:n<64):((g:Int)).fdiv (2^min n IntKind.u64.bits)=((g>>>n:Nat):Int):=by
 rw[show min n IntKind.u64.bits=n by have:IntKind.u64.bits=64:=rfl;omega,Nat.shiftRight_eq_div_pow]
 rw[Int.fdiv_eq_ediv_of_nonneg _ (by exact Int.le_of_lt (Int.pow_pos (by decide)))]
 push_cast
 rfl
theorem e0_gHas(g n:Nat)(hg:g<32)(hn:n<64)(lab s):den T0 119 [.int .u64 (g:Nat),i64 n] lab s=some (.bool (g.testBit n),s):=by
 have h1:=shr_word (g:=g) hn
 have h2: ¬(n:Int)<0:=by omega
 rw[den_fn u119 _ _ _ rfl]
 simp only[b119]
 simp (disch:=first|omega|assumption|decide +kernel|(simp;done)|(simp;omega)|fail) [h1,h2]
 have e:((g:Int)>>>n)=((g>>>n:Nat):Int):=rfl
 have hb:g>>>n≤g:=by rw[Nat.shiftRight_eq_div_pow];exact Nat.div_le_self ..
 have hbits:(2:Int)^IntKind.u64.bits=18446744073709551616:=by decide
 have ht:g.testBit n=decide ((g>>>n)%2=1):=by rw[Nat.testBit_eq_decide_div_mod_eq,Nat.shiftRight_eq_div_pow]
 rw[e,ht,hbits]
 generalize g>>>n=h at*
 have e3:max ((h:Int)%18446744073709551616) 0%2=((h%2:Nat):Int):=by omega
 rw[e3]
 rcases Nat.mod_two_eq_zero_or_one h with h0|h0<;>rw[h0]<;>decide
set_option maxHeartbeats 1000000 in
theorem e_list_l(g:Nat)(hg:g<32)(s:Stk):
 Run T b77l0 [(3, .sl (.own s.length 49) 1 []),(0, .int .u64 (g:Nat)),(3, .sl .full 1 []),(4,i64 0)] ([(49, .tok 0)]::s)=
  some (.exit 0,[(0, .int .u64 (g:Nat)),(3, .sl (.own s.length 49) 1 (es cInt (bitsL g))),(4,i64 (topN g:Nat)),(8, .bool false)],[(49, .tok (bitsL g).length)]::s):=by
 have h5:=top_le g hg
 have key:=loop_fold (T:=T) (live:=[0,3,4]) (keep:=[49]) (b:=d77l0) (List.range (topN g)) (fun k (a:List Int)=>a.length≤k) (bitF g)
  (fun k a=>[(0, .int .u64 (g:Nat)),(3, .sl (.own s.length 49) 1 (es cInt a)),(4,i64 (k:Nat))]) (fun _ a=>[(49, .tok a.length)]::s)
  (fun a=>(.exit 0,[(0, .int .u64 (g:Nat)),(3, .sl (.own s.length 49) 1 (es cInt a)),(4,i64 (topN g:Nat)),(8, .bool false)],[(49, .tok a.length)]::s))
  (by simp) ?_ ?_ ?_ [] (by simp) [(3, .sl (.own s.length 49) 1 []),(0, .int .u64 (g:Nat)),(3, .sl .full 1 []),(4,i64 0)] ([(49, .tok 0)]::s) (by simp) (by simp)
 ·rw[top_bits g hg]at key
  exact key
 ·intro k a hk hi
  simp only[List.length_range]at hk
  simp only[List.getElem_range]
  have h1:=shr_word (g:=g) (n:=k) (by omega)
  have h2: ¬(k:Int)<0:=by omega
  have h3:=top_pos g hg k hk
  have h4:=fun lab s=>e_gHas g k hg (by omega) lab s
  have e0:es cInt a ++[[i64 (k:Nat)]]=es cInt (a ++[(k:Int)]):=by simp[es]
  have hk9:k<1000:=by omega
  unfold bitF
  generalize g>>>k=x at*
  have h6:0<x:=by omega
  cases hb:g.testBit k
  ·rw[hb]at h4
   simp (maxSteps:=1000000) (disch:=first|omega|assumption|decide +kernel|(simp;done)|(simp;omega)|fail) [h1,h2,h4,h6,wk k (by omega)]
  ·rw[hb]at h4
   simp (maxSteps:=1000000) (disch:=first|omega|assumption|decide +kernel|(simp;done)|(simp;omega)|fail) [h1,h2,h4,h6,e0,appK_own1,wk k (by omega)]
 ·intro k a hk hi
  unfold bitF
  split<;>(try simp only[List.length_append,List.length_cons,List.length_nil])<;>omega
 ·intro a hi
  simp only[List.length_range]
  have h1:=shr_word (g:=g) (n:=topN g) (by omega)
  rw[top_end g hg]at h1
  have h2: ¬(topN g:Int)<0:=by omega
  generalize topN g=n at*
  simp (maxSteps:=1000000) (disch:=first|omega|assumption|decide +kernel|(simp;done)|(simp;omega)|fail) [h1,h2]
theorem e_list(g:Nat)(hg:g<32)(lab s):den T 77 [.int .u64 (g:Nat)] lab s=some (.sl .no 1 (es cInt (bitsL g)),s):=by
 have key:=e_list_l g hg s
 generalize bitsL g=L at*
 generalize topN g=n at*
 rw[den_fn t77 _ _ _ rfl]
 simp only[b77]
 simp (maxSteps:=1000000) (disch:=first|omega|assumption|decide +kernel|(simp;done)|(simp;omega)|fail) [key]
set_option maxHeartbeats 1000000 in
theorem e0_list_l(g:Nat)(hg:g<32)(s:Stk):
 Run T0 b77l0 [(3, .sl (.own s.length 49) 1 []),(0, .int .u64 (g:Nat)),(3, .sl .full 1 []),(4,i64 0)] ([(49, .tok 0)]::s)=
  some (.exit 0,[(0, .int .u64 (g:Nat)),(3, .sl (.own s.length 49) 1 (es cInt (bitsL g))),(4,i64 (topN g:Nat)),(8, .bool false)],[(49, .tok (bitsL g).length)]::s):=by
 have h5:=top_le g hg
 have key:=loop_fold (T:=T0) (live:=[0,3,4]) (keep:=[49]) (b:=d77l0) (List.range (topN g)) (fun k (a:List Int)=>a.length≤k) (bitF g)
  (fun k a=>[(0, .int .u64 (g:Nat)),(3, .sl (.own s.length 49) 1 (es cInt a)),(4,i64 (k:Nat))]) (fun _ a=>[(49, .tok a.length)]::s)
  (fun a=>(.exit 0,[(0, .int .u64 (g:Nat)),(3, .sl (.own s.length 49) 1 (es cInt a)),(4,i64 (topN g:Nat)),(8, .bool false)],[(49, .tok a.length)]::s))
  (by simp) ?_ ?_ ?_ [] (by simp) [(3, .sl (.own s.length 49) 1 []),(0, .int .u64 (g:Nat)),(3, .sl .full 1 []),(4,i64 0)] ([(49, .tok 0)]::s) (by simp) (by simp)
 ·rw[top_bits g hg]at key
  exact key
 ·intro k a hk hi
  simp only[List.length_range]at hk
  simp only[List.getElem_range]
  have h1:=shr_word (g:=g) (n:=k) (by omega)
  have h2: ¬(k:Int)<0:=by omega
  have h3:=top_pos g hg k hk
  have h4:=fun lab s=>e0_gHas g k hg (by omega) lab s
  have e0:es cInt a ++[[i64 (k:Nat)]]=es cInt (a ++[(k:Int)]):=by simp[es]
  have hk9:k<1000:=by omega
  unfold bitF
  generalize g>>>k=x at*
  have h6:0<x:=by omega
  cases hb:g.testBit k
  ·rw[hb]at h4
   simp (maxSteps:=1000000) (disch:=first|omega|assumption|decide +kernel|(simp;done)|(simp;omega)|fail) [h1,h2,h4,h6,wk k (by omega)]
  ·rw[hb]at h4
   simp (maxSteps:=1000000) (disch:=first|omega|assumption|decide +kernel|(simp;done)|(simp;omega)|fail) [h1,h2,h4,h6,e0,appK_own1,wk k (by omega)]
 ·intro k a hk hi
  unfold bitF
  split<;>(try simp only[List.length_append,List.length_cons,List.length_nil])<;>omega
 ·intro a hi
  simp only[List.length_range]
  have h1:=shr_word (g:=g) (n:=topN g) (by omega)
  rw[top_end g hg]at h1
  have h2: ¬(topN g:Int)<0:=by omega
  generalize topN g=n at*
  simp (maxSteps:=1000000) (disch:=first|omega|assumption|decide +kernel|(simp;done)|(simp;omega)|fail) [h1,h2]
theorem e0_list(g:Nat)(hg:g<32)(lab s):den T0 77 [.int .u64 (g:Nat)] lab s=some (.sl .no 1 (es cInt (bitsL g)),s):=by
 have key:=e0_list_l g hg s
 generalize bitsL g=L at*
 generalize topN g=n at*
 rw[den_fn u77 _ _ _ rfl]
 simp only[b77]
 simp (maxSteps:=1000000) (disch:=first|omega|assumption|decide +kernel|(simp;done)|(simp;omega)|fail) [key]
end Go.Proofs.YthghcainodgnkaaGreat

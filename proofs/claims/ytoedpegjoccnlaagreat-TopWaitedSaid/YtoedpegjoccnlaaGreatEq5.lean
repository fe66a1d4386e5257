/-
  TopWaited: the season whose days a trap tells.
-/
import Derived.Test.YtoedpegjoccnlaaGreatEq4
import Derived.Test.YtoedpegjoccnlaaGreatEq2
set_option linter.unusedSimpArgs false
set_option linter.unusedVariables false
namespace Go.Proofs.YtoedpegjoccnlaaGreat
open Go.Ab
abbrev ownCell(n:A.Season)(d lab dl:Nat)(a:List Sp):List V:=[i64 n.net.wind.lo,i64 n.net.wind.hi,i64 n.net.cur.lo,i64 n.net.cur.hi, .sl (.own d lab) 2 (es cSp n.net.grips), .sl (.own d (lab+1000)) 2 (es A.cAnc n.net.anch), .sl (.own d (lab+2000)) 5 (es A.cWal n.net.walls),i64 n.sea.weight.lo,i64 n.sea.weight.hi, .sl (.own d (lab+3000)) 2 (es cSp n.sea.places), .sl (.own d (lab+4000)) 2 (es A.cBoat n.sea.boats), .sl (.own d (lab+5000)) 4 (es A.cSky n.skies), .sl (.own d (lab+6000)) 1 (es cInts n.follows), .sl (.own d (lab+7000)) 1 (es cInt n.first), .sl (.own d dl) 2 (es cSp a)]
abbrev dyF(n:A.Season)(t:CTrap)(d:Nat)(a:List Sp):Ab.Loc:=[(48, .cell (A.season0 n)),(64, .cell (vT t)),(96, .cell A.zeroSeason),(208, .tok n.net.grips.length),(1208, .tok n.net.anch.length),(2208, .tok n.net.walls.length),(3208, .tok n.sea.places.length),(4208, .tok n.sea.boats.length),(5208, .tok n.skies.length),(6208, .tok n.follows.length),(7208, .tok n.first.length),(8208, .tok n.days.length),(128, .cell (ownCell n d 208 144 a)),(144, .tok a.length)]
theorem snoc_fold {α β:Type}(f:α→β): ∀(l:List α) (a:List β),l.foldl (fun a x=>a ++[f x]) a=a ++l.map f
 |[],a=>by simp
 |x::l,a=>by rw[List.foldl_cons,snoc_fold f l];simp
theorem T_chambers {t:CTrap}(h:TrapOk t):((t.C-1:Nat):Int)=t.chambers-1:=by
 have hcc:=h.cc
 have e2:t.C=t.chambers.toNat:=rfl
 omega
theorem T_times {t:CTrap}(h:TrapOk t):((t.T:Nat):Int)=t.times:=by
 have htt:=h.tt
 have e2:t.T=t.times.toNat:=rfl
 omega
set_option maxHeartbeats 8000000 in
theorem days_l0(n:A.Season)(t:CTrap)(hs:ShortT t)(hB:trapB t=true)(ht:TrapOk t)(hone:isOneB t=true)(hT:t.times≤5)(p:Int)(hp:0≤p∧p≤50)(s:Stk):
 Run T b25l0 [(2,i64 p),(4, .ptr s.length 64 0),(6, .ptr s.length 96 0),(8, .ptr s.length 128 0),(9,i64 0)] (dyF n t s.length []::s)=
  some (.exit 0,[(2,i64 p),(4, .ptr s.length 64 0),(6, .ptr s.length 96 0),(8, .ptr s.length 128 0),(9,i64 t.times),(18, .bool false)],dyF n t s.length (toldD t p)::s):=by
 have hz:=T_times ht
 have key:=loop_fold (T:=T) (live:=[2,4,6,8,9]) (keep:=[48,64,96,128,144,208,1208,2208,3208,4208,5208,6208,7208,8208]) (b:=d25l0) (List.range t.T) (fun k (a:List Sp)=>a.length=k) (fun a i=>a ++[⟨(lastC t i).lo*p,(lastC t i).hi*p⟩])
  (fun k _=>[(2,i64 p),(4, .ptr s.length 64 0),(6, .ptr s.length 96 0),(8, .ptr s.length 128 0),(9,i64 (k:Nat))]) (fun _ a=>dyF n t s.length a::s)
  (fun a=>(.exit 0,[(2,i64 p),(4, .ptr s.length 64 0),(6, .ptr s.length 96 0),(8, .ptr s.length 128 0),(9,i64 t.times),(18, .bool false)],dyF n t s.length a::s))
  (by simp) ?_ ?_ ?_ [] rfl [(2,i64 p),(4, .ptr s.length 64 0),(6, .ptr s.length 96 0),(8, .ptr s.length 128 0),(9,i64 0)] (dyF n t s.length []::s) (by simp) (by simp[A.season0,A.zeroSeason])
 ·rw[snoc_fold (fun i=>(⟨(lastC t i).lo*p,(lastC t i).hi*p⟩:Sp)),List.nil_append]at key
  exact key
 ·intro k a hk hi2
  simp only[List.length_range]at hk
  simp only[List.getElem_range]
  have hk2:(k:Int)<t.times:=by omega
  have hcc:=ht.cc
  have hf:=fun lab s=>e_Fish t hs hB (k:Nat) ((t.C-1:Nat):Int) lab s
  have e2:t.C=t.chambers.toNat:=rfl
  rw[fishC_at hB hone hk (by omega)]at hf
  change∀lab s,den T _ _ lab s=some (.tup [.agg [i64 (lastC t k).lo,i64 (lastC t k).hi],i64 0],s)at hf
  rw[T_chambers ht]at hf
  obtain⟨r1,r2,r3⟩:=lastC_range ht hone hk
  have w1:IntKind.i64.wrap (t.chambers-1)=t.chambers-1:=wi _ (by omega) (by omega)
  have q1:=A.mul40 (a:=(lastC t k).lo) ⟨r1,by omega⟩ hp
  have q2:=A.mul40 (a:=(lastC t k).hi) ⟨by omega,r3⟩ hp
  generalize lastC t k=W at*
  have w2:IntKind.i64.wrap (W.lo*p)=W.lo*p:=wi _ (by omega) (by omega)
  have w3:IntKind.i64.wrap (W.hi*p)=W.hi*p:=wi _ (by omega) (by omega)
  have n1: ¬W.lo<0:=by omega
  have n2: ¬W.hi<W.lo:=by omega
  have n3: ¬40<W.hi:=by omega
  have e0:es cSp a ++[[i64 (W.lo*p),i64 (W.hi*p)]]=es cSp (a ++[⟨W.lo*p,W.hi*p⟩]):=by simp[es]
  clear e2
  simp (maxSteps:=6000000) (disch:=first|omega|assumption|decide +kernel|(simp;done)|(simp;omega)|fail) [run_drawnK,orSlow_none,A.season0,A.zeroSeason,hk2,w1,w2,w3,hf,n1,n2,n3,e0,appK_own1,wk k (by omega)]
 ·intro k a hk hi2
  simp[hi2]
 ·intro a hi2
  simp only[List.length_range,hz]
  simp[A.season0,A.zeroSeason]
set_option maxHeartbeats 8000000 in
theorem e_days(n:A.Season)(hn:A.ShortC n)(t:CTrap)(hs:ShortT t)(hB:trapB t=true)(ht:TrapOk t)(hone:isOneB t=true)(hT:t.times≤5)(p:Int)(hp:0≤p∧p≤50)(lab s):
 den T 25 [.agg (A.season0 n), .agg (vT t),i64 p] lab s=some (.tup [.agg (A.season0 (A.daysS n (toldD t p))), .bool true],s):=by
 have hcp:=fun lab loc s k0 k1 k2 k3 k4 k5 k6 k7 k8=>A.e_Copy13 n.net.wind.lo n.net.wind.hi n.net.cur.lo n.net.cur.hi n.net.grips n.net.anch n.net.walls n.sea.weight.lo n.sea.weight.hi n.sea.places n.sea.boats n.skies n.follows n.first n.days hn lab loc s k0 k1 k2 k3 k4 k5 k6 k7 k8
 have hl0:=days_l0 n t hs hB ht hone hT p hp s
 simp only[dyF,ownCell,A.season0,A.zeroSeason,es_nil,List.length_nil]at hl0
 simp only[A.copyCells]at hcp
 unfold A.daysS
 simp only[A.season0]
 generalize toldD t p=D at*
 rw[den_fn t25 _ _ _ rfl]
 simp only[b25]
 simp (maxSteps:=6000000) (disch:=first|omega|assumption|decide +kernel|(simp;done)|(simp;omega)|fail) [run_drawnK,orSlow_none,hcp,hl0]
end Go.Proofs.YtoedpegjoccnlaaGreat

/-
  TopWaited: the season whose days are known.
-/
namespace Go.Proofs.YtoedpegjoccnlaaGreat
open Go.Ab
@[simp] theorem drawG_nil {T:Tab}(o os i rs loc0 rest e0 see v):drawG T o os i rs loc0 rest e0 see (some (v,[]))=if dApart o.dst [] o.pre 0 rs=true then runDrawn T (Run T) loc0 rest e0 os (i+1) (rs ++[⟨o.dst,v,[],see⟩]) else none:=by
 rw[drawG_some];simp only[List.all_nil,true_and]
def valD(L:List (List Int))(t:CTrap)(i:Nat):Int:=(L.getD i []).getD (t.C-1) 0
def knownD(L:List (List Int))(t:CTrap)(p:Int):List Sp:=(List.range t.T).map fun i=>⟨p*valD L t i,p*valD L t i⟩
abbrev knF(n m:A.Season)(t:CTrap)(L:List (List Int))(p:Int)(w:CWord)(d:Nat)(a:List Sp):Ab.Loc:=[(48, .cell (vT t)),(64, .cell (A.season0 n)),(80, .cell [.sl .no 1 (es cInts L),i64 p,i64 w.time,i64 w.chamber,i64 w.lo,i64 w.hi]),(112, .cell (A.season0 m)),(1072, .tok n.net.grips.length),(2072, .tok n.net.anch.length),(3072, .tok n.net.walls.length),(4072, .tok n.sea.places.length),(5072, .tok n.sea.boats.length),(6072, .tok n.skies.length),(7072, .tok n.follows.length),(8072, .tok n.first.length),(9072, .tok n.days.length),(144, .cell (ownCell n d 1072 160 a)),(160, .tok a.length)]
structure Vals(L:List (List Int))(t:CTrap):Prop where
 len:L.length=t.T
 row: ∀i,i<t.T→(L.getD i []).length=t.C
 val: ∀i,i<t.T→0≤valD L t i∧valD L t i≤40
set_option maxHeartbeats 1000000 in
theorem known_r8(t:CTrap)(L:List (List Int))(p:Int)(w:CWord)(k:Nat)(s:Stk)(R:List Int)(v:Int)(iC:Nat)(kL:k<L.length)(kL2:(k:Int)<L.length)(hR:L[k]=R)(kC:iC<R.length)(kC2:(iC:Int)<R.length)(hvv:R[iC]=v)(w1:IntKind.i64.wrap (t.chambers-1)=(iC:Int))(w2:IntKind.i64.wrap (p*v)=p*v)
 (loc:Ab.Loc) (g48:loc.get 48=some (.cell (vT t))) (g80:loc.get 80=some (.cell [.sl .no 1 (es cInts L),i64 p,i64 w.time,i64 w.chamber,i64 w.lo,i64 w.hi])) (hren:Loc.ren (dropR s.length (loc.map (·.1))) loc=loc) (v7 v9:V) (m48:48∈loc.map (fun x=>x.1)) (m80:80∈loc.map (fun x=>x.1)):
 Run T (.region true (spl [⟨(some 75), .faddr 1 (.t 5),none,[],[]⟩,⟨(some 76), .load none (.t 75),none,[0],[]⟩,⟨(some 77), .faddr 0 (.t 5),none,[],[]⟩,⟨(some 78), .load none (.t 77),none,[2],[]⟩,⟨(some 79), .mv (.t 10),none,[],[]⟩,⟨(some 80), .idxs 1 (.t 78) (.t 79),none,[3,4,2],[]⟩,⟨(some 81), .load none (.t 80),none,[5,3,4,2],[]⟩,⟨(some 82), .faddr 0 (.t 3),none,[],[]⟩,⟨(some 83), .load none (.t 82),none,[7],[]⟩,⟨(some 84), .bin .sub (.t 83) (.c (i64 1)),none,[8,7],[]⟩,⟨(some 85), .idxs 1 (.t 81) (.t 84),none,[6,9,5,3,4,2,8,7],[]⟩,⟨(some 86), .load none (.t 85),none,[10,6,9,5,3,4,2,8,7],[]⟩] [⟨(some 87), .bin .mul (.t 76) (.t 86),none,[1,11,0,10,6,9,5,3,4,2,8,7],[]⟩,⟨(some 11), .mv (.t 87),none,[12,1,11,0,10,6,9,5,3,4,2,8,7],[]⟩]) [3,4,5,7,8,9,10,11]) [(3, .ptr s.length 48 0),(4, .ptr s.length 64 0),(5, .ptr s.length 80 0),(7,v7),(8, .bool true),(9,v9),(10,i64 (k:Nat))] (loc::s)=some (.normal,[(3, .ptr s.length 48 0),(4, .ptr s.length 64 0),(5, .ptr s.length 80 0),(7,v7),(8, .bool true),(9,v9),(10,i64 (k:Nat)),(11,i64 (p*v))],loc::s):=by
 have ft: ∀l:Ab.Loc,l.filter (fun _=>true)=l:=fun l=>List.filter_eq_self.2 (by simp)
 simp (maxSteps:=400000) (disch:=first|omega|assumption|decide +kernel|(simp;done)|(simp;omega)|fail) [run_drawnK,orSlow_none,w1,w2,kL,hR,kC,hvv,kL2,kC2,g48,g80,hren,ft,m48,m80]
set_option maxHeartbeats 8000000 in
theorem known_l0(n m:A.Season)(t:CTrap)(ht:TrapOk t)(hT:t.times≤5)(L:List (List Int))(hv:Vals L t)(p:Int)(hp:0≤p∧p≤50)(w:CWord)(s:Stk):
 Run T b4l0 [(3, .ptr s.length 48 0),(4, .ptr s.length 64 0),(5, .ptr s.length 80 0),(7, .ptr s.length 112 0),(8, .bool true),(9, .ptr s.length 144 0),(10,i64 0)] (knF n m t L p w s.length []::s)=
  some (.exit 0,[(3, .ptr s.length 48 0),(4, .ptr s.length 64 0),(5, .ptr s.length 80 0),(7, .ptr s.length 112 0),(8, .bool true),(9, .ptr s.length 144 0),(10,i64 t.times),(72, .bool false)],knF n m t L p w s.length (knownD L t p)::s):=by
 have hz:=T_times ht
 have key:=loop_fold (T:=T) (live:=[3,4,5,7,8,9,10]) (keep:=[48,64,80,112,144,160,224,240,288,320,368,416,496,560,752,864,912,1008,1072,1552,1584,1824,1856,1920,1952,2048,2072,2096,2192,2256,2304,2384,3072,3104,4072,5072,6072,7072,8072,9072]) (b:=d4l0) (List.range t.T) (fun k (a:List Sp)=>a.length=k) (fun a i=>a ++[⟨p*valD L t i,p*valD L t i⟩])
  (fun k _=>[(3, .ptr s.length 48 0),(4, .ptr s.length 64 0),(5, .ptr s.length 80 0),(7, .ptr s.length 112 0),(8, .bool true),(9, .ptr s.length 144 0),(10,i64 (k:Nat))]) (fun _ a=>knF n m t L p w s.length a::s)
  (fun a=>(.exit 0,[(3, .ptr s.length 48 0),(4, .ptr s.length 64 0),(5, .ptr s.length 80 0),(7, .ptr s.length 112 0),(8, .bool true),(9, .ptr s.length 144 0),(10,i64 t.times),(72, .bool false)],knF n m t L p w s.length a::s))
  (by simp) ?_ ?_ ?_ [] rfl [(3, .ptr s.length 48 0),(4, .ptr s.length 64 0),(5, .ptr s.length 80 0),(7, .ptr s.length 112 0),(8, .bool true),(9, .ptr s.length 144 0),(10,i64 0)] (knF n m t L p w s.length []::s) (by simp) (by simp[A.season0])
 ·rw[snoc_fold (fun i=>(⟨p*valD L t i,p*valD L t i⟩:Sp)),List.nil_append]at key
  exact key
 ·intro k a hk hi2
  simp only[List.length_range]at hk
  simp only[List.getElem_range]
  have hk2:(k:Int)<t.times:=by omega
  have hcc:=ht.cc
  have e2:t.C=t.chambers.toNat:=rfl
  have kL:k<L.length:=by rw[hv.len];exact hk
  have kL2:(k:Int)<L.length:=by omega
  have hr:=hv.row k hk
  have eg:L.getD k []=L[k]:=by simp[List.getD,kL]
  have hv4:=hv.val k hk
  rw[eg]at hr
  have kC:t.C-1<L[k].length:=by omega
  have ev:valD L t k=L[k][t.C-1]:=by unfold valD;rw[eg];simp[List.getD,kC]
  rw[ev]at hv4⊢
  have w1:IntKind.i64.wrap (t.chambers-1)=((t.C-1:Nat):Int):=by rw[wi _ (by omega) (by omega)];omega
  have kC2:((t.C-1:Nat):Int)<L[k].length:=by omega
  obtain⟨iC,hiC⟩: ∃i,t.C-1=i:=⟨_,rfl⟩
  simp only[hiC]at*
  obtain⟨R,hR⟩: ∃R,L[k]=R:=⟨_,rfl⟩
  simp only[hR]at hv4 kC kC2⊢
  obtain⟨v,hvv⟩: ∃v,R[iC]=v:=⟨_,rfl⟩
  simp only[hvv]at hv4⊢
  have q1:=A.mul40 hv4 hp
  rw[Int.mul_comm]at q1
  have w2:IntKind.i64.wrap (p*v)=p*v:=wi _ (by omega) (by omega)
  have e0:es cSp a ++[[i64 (p*v),i64 (p*v)]]=es cSp (a ++[⟨p*v,p*v⟩]):=by simp[es]
  have kC':iC<R.length:=by omega
  have h8:=known_r8 t L p w k s R v iC kL kL2 hR kC' (by omega) hvv (by omega) w2 (knF n m t L p w s.length a) (by simp) (by simp) (by simp[A.season0]) (.ptr s.length 112 0) (.ptr s.length 144 0) (by simp) (by simp)
  have w1':IntKind.i64.wrap (t.chambers-1)=(iC:Int):=by omega
  have kC2':(iC:Int)<R.length:=by omega
  simp only[knF,ownCell,A.season0]at h8⊢
  clear ev eg hr
  simp (maxSteps:=6000000) (disch:=first|omega|assumption|decide +kernel|(simp;done)|(simp;omega)|fail) [h8,A.season0,hk2,w1',w2,kL,kL2,hR,kC',kC2',hvv,e0,appK_own1,hi2,wk k (by omega)]
 ·intro k a hk hi2
  simp[hi2]
 ·intro a hi2
  simp only[List.length_range,hz]
  simp[A.season0]
theorem dif_val {t:CTrap}(h:TrapOk t) {L:List (List Int)}(hL:truthT t L=true) {i:Nat}(hi:i<t.T):(lastC t i).lo≤valD L t i∧valD L t i≤(lastC t i).hi:=by
 obtain⟨h1,h2,h3⟩:=truthT_sol h hL
 have hcc:=h.cc
 have e2:t.C=t.chambers.toNat:=rfl
 have hC:t.C-1<t.C:=by omega
 have d:=difR_spec (c:=t.C-1) (d:=t.C-1+1) h ⟨_,h1⟩ hi (Nat.le_of_lt hC) hi hC
 have hx:=d.all _ h1
 have ex:=rowsX_at (L:=L) (i:=i) (c:=t.C-1) (by rw[h3 i hi];exact hC)
 unfold lastC valD
 rw[←ex]
 exact hx
theorem vals_ok {t:CTrap}(h:TrapOk t) {L:List (List Int)}(hL:truthT t L=true):Vals L t:=by
 obtain⟨h1,h2,h3⟩:=truthT_sol h hL
 have hone:isOneB t=true:=(isOne_iff h).2 ⟨_,h1⟩
 refine⟨h2,h3,fun i hi=> ?_⟩
 have q1:=dif_val h hL hi
 have q2:=lastC_range h hone hi
 omega
theorem sharp_known {t:CTrap}(h:TrapOk t) {L:List (List Int)}(hL:truthT t L=true) {p:Int}(hp:0≤p):A.Sharp (knownD L t p) (toldD t p):=by
 refine⟨by simp[knownD,toldD],fun i h1 h2=> ?_,fun i h1 h2=> ?_⟩
 all_goals
  have hi:i<t.T:=by simpa [knownD]using h1
  obtain⟨q1,q2⟩:=dif_val h hL hi
  simp only[knownD,toldD,List.getElem_map,List.getElem_range]
 ·rw[Int.mul_comm p];exact Int.mul_le_mul_of_nonneg_right q1 hp
 ·rw[Int.mul_comm p];exact Int.mul_le_mul_of_nonneg_right q2 hp
theorem sharp_told {t:CTrap}(h:TrapOk t) {w:CWord}(ho:TrapOk (toldT t w))(hone:isOneB (toldT t w)=true)(hone':isOneB t=true) {p:Int}(hp:0≤p):A.Sharp (toldD (toldT t w) p) (toldD t p):=by
 have hl:Less (toldT t w) t:=⟨rfl,rfl,rfl,fun x hx=>by simp[toldT,hx]⟩
 have hcc:=h.cc
 have e2:t.C=t.chambers.toNat:=rfl
 have hC:t.C-1<t.C:=by omega
 have eT:(toldT t w).T=t.T:=rfl
 have key: ∀i,i<t.T→(lastC t i).lo≤(lastC (toldT t w) i).lo∧(lastC (toldT t w) i).hi≤(lastC t i).hi:=fun i hi=>by
  have d1:=difR_spec (t:=toldT t w) (c:=t.C-1) (d:=t.C-1+1) ho ((isOne_iff ho).1 hone) hi (Nat.le_of_lt hC) hi hC
  have d2:=difR_spec (c:=t.C-1) (d:=t.C-1+1) h ((isOne_iff h).1 hone') hi (Nat.le_of_lt hC) hi hC
  have:=hl.dif d1 d2
  exact⟨this.1,this.2.2⟩
 refine⟨by simp[toldD,eT],fun i h1 h2=> ?_,fun i h1 h2=> ?_⟩
 all_goals
  have hi:i<t.T:=by simpa [toldD,eT]using h1
  obtain⟨q1,q2⟩:=key i hi
  simp only[toldD,List.getElem_map,List.getElem_range]
 ·exact Int.mul_le_mul_of_nonneg_right q1 hp
 ·exact Int.mul_le_mul_of_nonneg_right q2 hp
theorem told_days {t:CTrap}(h:TrapOk t)(hone:isOneB t=true) {p:Int}(hp:0≤p∧p≤50): ∀x∈toldD t p,A.spanOk x 2000=true:=fun x hx=>by
 obtain⟨i,hi,rfl⟩:=List.mem_map.1 hx
 simp only[List.mem_range]at hi
 obtain⟨r1,r2,r3⟩:=lastC_range h hone hi
 have q1:=A.mul40 (a:=(lastC t i).lo) ⟨r1,by omega⟩ hp
 have q2:=A.mul40 (a:=(lastC t i).hi) ⟨by omega,r3⟩ hp
 exact A.spanOk_iff.2 ⟨q1.1,Int.mul_le_mul_of_nonneg_right r2 hp.1,q2.2⟩
theorem known_days {t:CTrap} {L:List (List Int)}(hv:Vals L t) {p:Int}(hp:0≤p∧p≤50): ∀x∈knownD L t p,A.spanOk x 2000=true:=fun x hx=>by
 obtain⟨i,hi,rfl⟩:=List.mem_map.1 hx
 simp only[List.mem_range]at hi
 have q1:=A.mul40 (hv.val i hi) hp
 rw[Int.mul_comm]at q1
 exact A.spanOk_iff.2 ⟨q1.1,Int.le_refl _,q1.2⟩
end Go.Proofs.YtoedpegjoccnlaaGreat

/-
  TopWaited: its equation.
-/
namespace Go.Proofs.YtoedpegjoccnlaaGreat
open Go.Ab
set_option maxHeartbeats 2000000 in
theorem wait_r11(n:A.Season)(D1 D2:List Sp)(x y:Int)(z:Int)(s:Stk)(hb1: ∀lab s,den T 27 [.agg (A.season0 (A.daysS n D1))] lab s=some (i64 x,s))(hb2: ∀lab s,den T 27 [.agg (A.season0 (A.daysS n D2))] lab s=some (i64 y,s))
 (loc:Ab.Loc) (g7:loc.get 112=some (.cell (A.season0 (A.daysS n D1)))) (g9:loc.get 144=some (.cell (ownCell n s.length 1072 160 D2))) (hren:Loc.ren (dropR s.length (loc.map (·.1))) loc=loc) (hdi:Ab.distinct (loc.map (fun x=>x.1))=true) (v3 v4 v5:V) (m7:112∈loc.map (fun x=>x.1)) (m9:144∈loc.map (fun x=>x.1))
 (o0:1072∈loc.map (fun x=>x.1)) (o1:2072∈loc.map (fun x=>x.1)) (o2:3072∈loc.map (fun x=>x.1)) (o3:4072∈loc.map (fun x=>x.1)) (o4:5072∈loc.map (fun x=>x.1)) (o5:6072∈loc.map (fun x=>x.1)) (o6:7072∈loc.map (fun x=>x.1)) (o7:8072∈loc.map (fun x=>x.1)) (o8:160∈loc.map (fun x=>x.1)):
 Run T (.region true (spl [⟨(some 96), .load (some 15) (.t 7),none,[],[]⟩,⟨(some 97), .call 27 [(.t 96)],none,[0],[]⟩,⟨(some 98), .load (some 15) (.t 9),none,[],[]⟩] [⟨(some 99), .call 27 [(.t 98)],none,[2,1,0],[]⟩,⟨(some 12), .mv (.t 97),none,[3,2,1,0],[]⟩,⟨(some 13), .mv (.t 99),none,[4,3,2,1,0],[]⟩]) [3,4,5,7,8,12,13]) [(3,v3),(4,v4),(5,v5),(7, .ptr s.length 112 0),(8, .bool true),(9, .ptr s.length 144 0),(10,i64 z),(72, .bool false)] (loc::s)=some (.normal,[(3,v3),(4,v4),(5,v5),(7, .ptr s.length 112 0),(8, .bool true),(12,i64 x),(13,i64 y)],loc::s):=by
 have ft: ∀l:Ab.Loc,l.filter (fun _=>true)=l:=fun l=>List.filter_eq_self.2 (by simp)
 simp only[A.season0,A.daysS,ownCell]at hb1 hb2 g7 g9
 simp (maxSteps:=400000) (disch:=first|omega|assumption|decide +kernel|(simp;done)|(simp;omega)|fail) [run_drawnK,orSlow_none,hb1,hb2,g7,g9,hren,hdi,ft,m7,m9,o0,o1,o2,o3,o4,o5,o6,o7,o8]
end Go.Proofs.YtoedpegjoccnlaaGreat

/-
  TopWaited: its equation.
-/
namespace Go.Proofs.YtoedpegjoccnlaaGreat
open Go.Ab
theorem told_copy {t:CTrap}(h:CopyT t)(w:CWord)(hw:t.words.length<900000):CopyT (toldT t w):=by
 obtain⟨h1,h2,h3⟩:=h
 exact⟨h1,by simp only[toldT,List.length_append,List.length_singleton];omega,h3⟩
theorem short_days {n:A.Season}(h:A.Short n) {D:List Sp}(hD:D.length≤5):A.Short (A.daysS n D):=by
 obtain⟨h1,h2,h3,h4,h5,h6,h7,h8⟩:=h
 exact⟨h1,h2,h3,h4,h5,h6,by simp only[A.daysS];omega,h8⟩
theorem e_OffW(m:A.Season)(hs:A.Short m)(lab s):den T 30 [.agg (A.season0 m)] lab s=some (.tup [.agg [i64 (A.offR m).1.1,i64 (A.offR m).1.2],i64 (A.offR m).2],s):=
 A.e_Off m.net.wind.lo m.net.wind.hi m.net.cur.lo m.net.cur.hi m.net.grips m.net.anch m.net.walls m.sea.weight.lo m.sea.weight.hi m.sea.places m.sea.boats m.skies m.follows m.first m.days hs lab s
structure WOk(t:CTrap)(n:A.Season)(L:List (List Int))(p:Int):Prop where
 far:(hugeT t||((decide (3<t.chambers)||decide (3<t.times))&&trapB t))=false
 ht:trapB t=true
 farS:A.farSeason n=false
 hok:A.seasonOk n=true
 len: ¬40<L.length
 hp:wiB p 0 50=true
 truth:truthT t L=true
theorem WOk.times {t n L p}(h:WOk t n L p):t.times≤3:=by
 have:=h.far
 rw[h.ht]at this
 simp only[Bool.or_eq_false_iff,Bool.and_true,decide_eq_false_iff_not]at this
 omega
set_option maxHeartbeats 32000000 in
theorem e_waitEarly(t:CTrap)(hs:ShortT t)(n:A.Season)(hn:A.ShortC n)(L:List (List Int))(hL:L.length<4611686018427387904)(p:Int)(w:CWord)(hno: ¬WOk t n L p)(lab s):
 den T 4 [.agg (vT t), .agg (A.season0 n), .agg [.sl .no 1 (es cInts L),i64 p,i64 w.time,i64 w.chamber,i64 w.lo,i64 w.hi]] lab s=some (.bool true,s):=by
 have hwt:=fun lab s=>e_waited lab s
 have hsh:=hn.short
 have h1:=fun lab s=>e_Far01 t hs lab s
 have h2:=fun lab s=>e_Check01 t hs lab s
 have h3:=fun lab s=>A.e_Far13 n.net.wind.lo n.net.wind.hi n.net.cur.lo n.net.cur.hi n.net.grips n.net.anch n.net.walls n.sea.weight.lo n.sea.weight.hi n.sea.places n.sea.boats n.skies n.follows n.first n.days hsh.skies hsh.follows hsh.first hsh.days hsh.each lab s
 have h4:=fun lab s=>A.e_Check13 n.net.wind.lo n.net.wind.hi n.net.cur.lo n.net.cur.hi n.net.grips n.net.anch n.net.walls n.sea.weight.lo n.sea.weight.hi n.sea.places n.sea.boats n.skies n.follows n.first n.days hsh.skies hsh.first hsh.days hsh.each lab s
 change∀lab s,den T _ [.agg (A.season0 n)] lab s=some (.bool (A.farSeason n),s)at h3
 change∀lab s,den T _ [.agg (A.season0 n)] lab s=some (i64 (if A.seasonOk n=true then 0 else 130),s)at h4
 simp only[A.season0]at h3 h4⊢
 cases c1:(hugeT t||((decide (3<t.chambers)||decide (3<t.times))&&trapB t))<;>rw[c1]at h1
 rotate_left
 ·rw[den_fn t4 _ _ _ rfl]
  simp only[b4]
  simp (maxSteps:=6000000) (disch:=first|omega|assumption|decide +kernel|(simp;done)|(simp;omega)|fail) [run_drawnK,orSlow_none,h1,hwt]
 cases ht:trapB t<;>simp only[ht,Bool.false_eq_true,if_false,if_true]at h2
 ·rw[den_fn t4 _ _ _ rfl]
  simp only[b4]
  simp (maxSteps:=6000000) (disch:=first|omega|assumption|decide +kernel|(simp;done)|(simp;omega)|fail) [run_drawnK,orSlow_none,h1,h2,hwt]
 cases c3:A.farSeason n<;>rw[c3]at h3
 rotate_left
 ·rw[den_fn t4 _ _ _ rfl]
  simp only[b4]
  simp (maxSteps:=6000000) (disch:=first|omega|assumption|decide +kernel|(simp;done)|(simp;omega)|fail) [run_drawnK,orSlow_none,h1,h2,h3,-A.e_Far13,-A.e_Check13,hwt]
 cases hok:A.seasonOk n<;>simp only[hok,Bool.false_eq_true,if_false,if_true]at h4
 ·rw[den_fn t4 _ _ _ rfl]
  simp only[b4]
  simp (maxSteps:=6000000) (disch:=first|omega|assumption|decide +kernel|(simp;done)|(simp;omega)|fail) [run_drawnK,orSlow_none,h1,h2,h3,h4,-A.e_Far13,-A.e_Check13,hwt]
 by_cases c5:40<L.length
 ·have c5':(40:Int)<L.length:=by omega
  rw[den_fn t4 _ _ _ rfl]
  simp only[b4]
  simp (maxSteps:=6000000) (disch:=first|omega|assumption|decide +kernel|(simp;done)|(simp;omega)|fail) [run_drawnK,orSlow_none,h1,h2,h3,h4,-A.e_Far13,-A.e_Check13,c5,c5',hwt]
 have c5': ¬(40:Int)<L.length:=by omega
 have hwi:=fun lab s=>A.e_Within p 0 50 lab s
 cases c6:wiB p 0 50<;>rw[c6]at hwi
 ·rw[den_fn t4 _ _ _ rfl]
  simp only[b4]
  simp (maxSteps:=6000000) (disch:=first|omega|assumption|decide +kernel|(simp;done)|(simp;omega)|fail) [run_drawnK,orSlow_none,h1,h2,h3,h4,-A.e_Far13,-A.e_Check13,c5,c5',hwi,-e_Within,-A.e_Within,hwt]
 have h7:=fun lab s=>e_IsTruth t (trapB_ok ht) hs.each L lab s
 cases c7:truthT t L<;>rw[c7]at h7
 ·rw[den_fn t4 _ _ _ rfl]
  simp only[b4]
  simp (maxSteps:=6000000) (disch:=first|omega|assumption|decide +kernel|(simp;done)|(simp;omega)|fail) [run_drawnK,orSlow_none,h1,h2,h3,h4,-A.e_Far13,-A.e_Check13,c5,c5',hwi,-e_Within,-A.e_Within,h7,hwt]
 exact absurd ⟨c1,ht,c3,hok,c5,c6,c7⟩ hno
end Go.Proofs.YtoedpegjoccnlaaGreat

/-
  TopWaited: its equation.
-/
namespace Go.Proofs.YtoedpegjoccnlaaGreat
open Go.Ab
set_option maxHeartbeats 32000000 in
theorem e_waitLate(t:CTrap)(hs:ShortT t)(n:A.Season)(hn:A.ShortC n)(L:List (List Int))(hL:L.length<4611686018427387904)(p:Int)(w:CWord)(h:WOk t n L p)(lab s):
 den T 4 [.agg (vT t), .agg (A.season0 n), .agg [.sl .no 1 (es cInts L),i64 p,i64 w.time,i64 w.chamber,i64 w.lo,i64 w.hi]] lab s=some (.bool true,s):=by
 have hwt:=fun lab s=>e_waited lab s
 have hsh:=hn.short
 have hT:=h.times
 have ht:=h.ht
 have htk:=trapB_ok ht
 have htt:=htk.tt
 have eT:t.T=t.times.toNat:=rfl
 have hp:=A.within_iff.1 h.hp
 obtain⟨s1,s2,s3⟩:=truthT_sol htk h.truth
 have hone:isOneB t=true:=(isOne_iff htk).2 ⟨_,s1⟩
 have h1:=fun lab s=>e_Far01 t hs lab s
 have h2:=fun lab s=>e_Check01 t hs lab s
 have h3:=fun lab s=>A.e_Far13 n.net.wind.lo n.net.wind.hi n.net.cur.lo n.net.cur.hi n.net.grips n.net.anch n.net.walls n.sea.weight.lo n.sea.weight.hi n.sea.places n.sea.boats n.skies n.follows n.first n.days hsh.skies hsh.follows hsh.first hsh.days hsh.each lab s
 have h4:=fun lab s=>A.e_Check13 n.net.wind.lo n.net.wind.hi n.net.cur.lo n.net.cur.hi n.net.grips n.net.anch n.net.walls n.sea.weight.lo n.sea.weight.hi n.sea.places n.sea.boats n.skies n.follows n.first n.days hsh.skies hsh.first hsh.days hsh.each lab s
 change∀lab s,den T _ [.agg (A.season0 n)] lab s=some (.bool (A.farSeason n),s)at h3
 change∀lab s,den T _ [.agg (A.season0 n)] lab s=some (i64 (if A.seasonOk n=true then 0 else 130),s)at h4
 have c5:=h.len
 have c5': ¬(40:Int)<L.length:=by omega
 have hwi:=fun lab s=>A.e_Within p 0 50 lab s
 have h7:=fun lab s=>e_IsTruth t htk hs.each L lab s
 rw[h.far]at h1
 rw[ht,if_pos rfl]at h2
 rw[h.farS]at h3
 rw[h.hok,if_pos rfl]at h4
 rw[h.hp]at hwi
 rw[h.truth]at h7
 have hv:=vals_ok htk h.truth
 have hda:=fun lab s=>e_days n hn t hs ht htk hone (by omega) p hp lab s
 have hcp:=fun lab loc s k0 k1 k2 k3 k4 k5 k6 k7 k8=>A.e_Copy13 n.net.wind.lo n.net.wind.hi n.net.cur.lo n.net.cur.hi n.net.grips n.net.anch n.net.walls n.sea.weight.lo n.sea.weight.hi n.sea.places n.sea.boats n.skies n.follows n.first n.days hn lab loc s k0 k1 k2 k3 k4 k5 k6 k7 k8
 have lt:(toldD t p).length≤5:=by simp only[toldD,List.length_map,List.length_range];omega
 have lk:(knownD L t p).length≤5:=by simp only[knownD,List.length_map,List.length_range];omega
 have ok1:=A.days_season h.hok lt (told_days htk hone hp)
 have ok2:=A.days_season h.hok lk (known_days hv hp)
 have hb1:=fun lab s=>e_bringsW _ (short_days hsh lt) ok1 lab s
 have hb2:=fun lab s=>e_bringsW _ (short_days hsh lk) ok2 lab s
 have x1:=(A.best_range ok1).1
 have x2:=A.sharp_best ok2 ok1 (sharp_known htk h.truth hp.1)
 have hf1:=fun lab s=>e_OffW _ (short_days hsh lt) lab s
 have hl0:=known_l0 n (A.daysS n (toldD t p)) t htk (by omega) L hv p hp w s
 have h11:=wait_r11 n (toldD t p) (knownD L t p) _ _ t.times s hb1 hb2 (knF n (A.daysS n (toldD t p)) t L p w s.length (knownD L t p)) rfl rfl (by simp[A.season0]) rfl (.ptr s.length 48 0) (.ptr s.length 64 0) (.ptr s.length 80 0) (by simp) (by simp) (by simp) (by simp) (by simp) (by simp) (by simp) (by simp) (by simp) (by simp) (by simp)
 have hw:=fun lab s=>e_isWord01 t (trapB_mid ht) w lab s
 have hto:=fun lab s=>e_Told01 t (trapB_copy ht) w lab s
 cases q1:wordOk t w<;>rw[q1]at hw
 ·generalize A.bestS (A.daysS n (toldD t p))=x at*
  generalize A.bestS (A.daysS n (knownD L t p))=y at*
  have n1: ¬x<0:=by omega
  have n2: ¬y<x:=by omega
  simp only[knF,ownCell,A.season0,A.daysS,es_nil,List.length_nil,A.copyCells]at*
  rw[den_fn t4 _ _ _ rfl]
  simp only[b4]
  simp (maxSteps:=6000000) (disch:=first|omega|assumption|decide +kernel|(simp;done)|(simp;omega)|fail) [h1,h2,h3,h4,-A.e_Far13,-A.e_Check13,c5,c5',hwi,-e_Within,-A.e_Within,h7,hda,hcp,hl0,h11,n1,n2,hw,hwt]
 have htw:=htk.words
 have hso:=(told_copy (trapB_copy ht) w (by omega)).short
 have h2o:=fun lab s=>e_Check01 (toldT t w) hso lab s
 cases q2:trapB (toldT t w)<;>simp only[q2,Bool.false_eq_true,if_false,if_true]at h2o
 ·generalize toldT t w=o at*
  generalize A.bestS (A.daysS n (toldD t p))=x at*
  generalize A.bestS (A.daysS n (knownD L t p))=y at*
  have n1: ¬x<0:=by omega
  have n2: ¬y<x:=by omega
  simp only[knF,ownCell,A.season0,A.daysS,es_nil,List.length_nil,A.copyCells]at*
  rw[den_fn t4 _ _ _ rfl]
  simp only[b4]
  simp (maxSteps:=6000000) (disch:=first|omega|assumption|decide +kernel|(simp;done)|(simp;omega)|fail) [h1,h2,h3,h4,-A.e_Far13,-A.e_Check13,c5,c5',hwi,-e_Within,-A.e_Within,h7,hda,hcp,hl0,h11,n1,n2,hw,hwt,hto,h2o]
 have hok':=trapB_ok q2
 have h7o:=fun lab s=>e_IsTruth (toldT t w) hok' hso.each L lab s
 cases q3:truthT (toldT t w) L<;>rw[q3]at h7o
 ·generalize toldT t w=o at*
  generalize A.bestS (A.daysS n (toldD t p))=x at*
  generalize A.bestS (A.daysS n (knownD L t p))=y at*
  have n1: ¬x<0:=by omega
  have n2: ¬y<x:=by omega
  simp only[knF,ownCell,A.season0,A.daysS,es_nil,List.length_nil,A.copyCells]at*
  rw[den_fn t4 _ _ _ rfl]
  simp only[b4]
  simp (maxSteps:=6000000) (disch:=first|omega|assumption|decide +kernel|(simp;done)|(simp;omega)|fail) [h1,h2,h3,h4,-A.e_Far13,-A.e_Check13,c5,c5',hwi,-e_Within,-A.e_Within,h7,hda,hcp,hl0,h11,n1,n2,hw,hwt,hto,h2o,h7o]
 obtain⟨u1,u2,u3⟩:=truthT_sol hok' q3
 have hone':isOneB (toldT t w)=true:=(isOne_iff hok').2 ⟨_,u1⟩
 have hdo:=fun lab s=>e_days n hn (toldT t w) hso q2 hok' hone' (by show t.times≤5;omega) p hp lab s
 have lo:(toldD (toldT t w) p).length≤5:=by
  simp only[toldD,List.length_map,List.length_range]
  show t.T≤5
  omega
 have ok3:=A.days_season h.hok lo (told_days hok' hone' hp)
 have hb3:=fun lab s=>e_bringsW _ (short_days hsh lo) ok3 lab s
 have hf3:=fun lab s=>e_OffW _ (short_days hsh lo) lab s
 have hsh3:=sharp_told htk hok' hone' hone hp.1
 have y1:=A.sharp_best ok3 ok1 hsh3
 have y2:=A.sharp_best ok2 ok3 (show A.Sharp (knownD L t p) (toldD (toldT t w) p)from sharp_known hok' q3 hp.1)
 have z1:=A.sharp_off ok3 ok1 hsh3
 have z2:=A.off_err ok1
 clear ok1 ok2 ok3 hsh3 u1 u2 u3 s1 s2 s3 lo lt lk
 generalize toldT t w=o at*
 generalize A.bestS (A.daysS n (toldD t p))=x at*
 generalize A.bestS (A.daysS n (knownD L t p))=y at*
 generalize A.bestS (A.daysS n (toldD o p))=z at*
 generalize A.offR (A.daysS n (toldD t p))=F at*
 generalize A.offR (A.daysS n (toldD o p))=G at*
 have n1: ¬x<0:=by omega
 have n2: ¬y<x:=by omega
 have n3: ¬z<x:=by omega
 have n4: ¬y<z:=by omega
 obtain⟨⟨F1,F2⟩,F3⟩:=F
 obtain⟨⟨G1,G2⟩,G3⟩:=G
 simp only at z1 z2 hf1 hf3
 rcases z2 with rfl|rfl
 ·obtain⟨rfl,z3,z4⟩:=z1 rfl
  have n5: ¬F1<G1:=by omega
  have n6: ¬F2<G2:=by omega
  simp only[knF,ownCell,A.season0,A.daysS,es_nil,List.length_nil,A.copyCells]at*
  rw[den_fn t4 _ _ _ rfl]
  simp only[b4]
  simp (maxSteps:=6000000) (disch:=first|omega|assumption|decide +kernel|(simp;done)|(simp;omega)|fail) [h1,h2,h3,h4,-A.e_Far13,-A.e_Check13,c5,c5',hwi,-e_Within,-A.e_Within,h7,hda,hcp,hl0,h11,n1,n2,hw,hwt,hto,h2o,h7o,hdo,hb3,hf1,hf3,n3,n4,n5,n6]
 ·clear z1
  simp only[knF,ownCell,A.season0,A.daysS,es_nil,List.length_nil,A.copyCells]at*
  rw[den_fn t4 _ _ _ rfl]
  simp only[b4]
  simp (maxSteps:=6000000) (disch:=first|omega|assumption|decide +kernel|(simp;done)|(simp;omega)|fail) [h1,h2,h3,h4,-A.e_Far13,-A.e_Check13,c5,c5',hwi,-e_Within,-A.e_Within,h7,hda,hcp,hl0,h11,n1,n2,hw,hwt,hto,h2o,h7o,hdo,hb3,hf1,hf3,n3,n4]
theorem e_TopWaited(t:CTrap)(hs:ShortT t)(n:A.Season)(hn:A.ShortC n)(L:List (List Int))(hL:L.length<4611686018427387904)(p:Int)(w:CWord)(lab s):
 den T 4 [.agg (vT t), .agg (A.season0 n), .agg [.sl .no 1 (es cInts L),i64 p,i64 w.time,i64 w.chamber,i64 w.lo,i64 w.hi]] lab s=some (.bool true,s):=by
 by_cases h:WOk t n L p
 ·exact e_waitLate t hs n hn L hL p w h lab s
 ·exact e_waitEarly t hs n hn L hL p w h lab s
end Go.Proofs.YtoedpegjoccnlaaGreat

/-
  What the arguments of TopWaited read as.
-/
namespace Go.Proofs.YtoedpegjoccnlaaGreat
open Go.Ab
set_option maxRecDepth 100000
theorem fit_waited {n:Nat} {vs:List V}(h:Fit Tryz.prog Reach (n+4) 67 vs): ∃(m:List (List Int)) (p:Int) (w:CWord),vs=[.sl .no 1 (es cInts m),i64 p,i64 w.time,i64 w.chamber,i64 w.lo,i64 w.hi]∧m.length<4611686018427387904:=by
 rw[Fit,Tryz.underlying67]at h
 simp only[FitF]at h
 obtain⟨_,_,rfl,h0,_,_,rfl,h1,_,_,rfl,h2,rfl⟩:=h
 obtain⟨m,rfl,q1,_⟩:=fit_lists h0
 obtain⟨p,rfl⟩:=fit_int h1
 obtain⟨w,rfl⟩:=fit_cword h2
 exact⟨m,p,w,rfl,reach_lists q1⟩
end Go.Proofs.YtoedpegjoccnlaaGreat

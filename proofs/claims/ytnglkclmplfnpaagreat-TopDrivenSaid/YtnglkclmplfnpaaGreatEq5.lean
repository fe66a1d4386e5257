/-
  TopDriven: the turns of a trap, and the trap of the counts: plain law.
-/
import Derived.Test.YtnglkclmplfnpaaGreatEq4
import Derived.Test.YtnglkclmplfnpaaGreatEq2
set_option linter.unusedSimpArgs false
set_option linter.unusedVariables false
namespace Go.Proofs.YtnglkclmplfnpaaGreat
open Go.Ab
def stD(t:DTrap)(C M:List (List Int)):Nat→DTrap
 |0=>t
 |i+1=>behindT (stD t C M i) (C.getD i []) (M.getD i [])
structure TurnOk(p:DTrap)(c m:List Int):Prop where
 chg:isChangeB p.hands p.gates.length c=true
 are:areB (changedT p c) m=true
 fwd: ∀k (hk:k<p.groups.length),p.groups[k].pos≤m.getD k 0
structure Driv(t:DTrap)(C M:List (List Int))(n:Nat):Prop where
 ok:DoorOk t
 row:RowOk t
 tu:(n:Int)≤t.turns
 sum:behG t.groups 0≤40
 turn: ∀i,i<n→TurnOk (stD t C M i) (C.getD i []) (M.getD i [])
theorem Driv.less {t C M n}(h:Driv t C M n) {k:Nat}(hk:k≤n):Driv t C M k:=⟨h.ok,h.row,by have:=h.tu;omega,h.sum,fun i hi=>h.turn i (by omega)⟩
structure StOk(t:DTrap)(p:DTrap)(k:Nat):Prop where
 ok:DoorOk p
 row:RowOk p
 tu:p.turns=t.turns-k
 ch:p.chambers=t.chambers
 ha:p.hands=t.hands
 gl:p.gates.length=t.gates.length
 ol:p.groups.length=t.groups.length
 all:behG p.groups 0=behG t.groups 0
theorem row_behind {t:DTrap}(h:RowOk t)(c m:List Int):RowOk (behindT t c m):=by
 have:=row_changed h c
 exact⟨this.len,this.at_⟩
theorem Driv.st {t C M}: ∀ {n},Driv t C M n→StOk t (stD t C M n) n
 |0,h=>⟨h.ok,h.row,by simp[stD],rfl,rfl,rfl,rfl,rfl⟩
 |n+1,h=>by
   have ih:=(h.less (Nat.le_succ n)).st
   have ht:=h.turn n (by omega)
   have hT:0<(stD t C M n).turns:=by have:=ih.tu;have:=h.tu;omega
   have hl:=turn_law ih.ok ih.row ht.are ht.fwd 0
   have hz:behG (stD t C M n).groups 0=behG (behindT (stD t C M n) (C.getD n []) (M.getD n [])).groups 0:=by
    rcases Int.lt_or_eq_of_le hl.1 with hlt|he
    ·obtain⟨i,_,_,e⟩:=mem_doorsL.1 (hl.2 hlt)
     omega
    ·exact he
   refine⟨behind_ok ih.ok hT (mem_movesT.2 ht.are),row_behind ih.row _ _,?_,ih.ch,ih.ha,?_,?_,?_⟩
   ·show(stD t C M n).turns-1=_;rw[ih.tu];omega
   ·rw[←ih.gl];simp[stD,behindT,movedT,changedT]
   ·rw[←ih.ol];simp[stD,behindT,movedT,changedT]
   ·rw[←ih.all];exact hz.symm
theorem Driv.at {t C M n}(h:Driv t C M n) {i:Nat}(hi:i≤n):StOk t (stD t C M i) i:=(h.less hi).st
theorem Driv.play {t C M n}(h:Driv t C M n)(hC:n≤C.length): ∀ {k},k≤n→playF t (C.take k) (M.take k)=(stD t C M k,true):=by
 intro k hk
 have key: ∀j,j≤k→foldB (playStep (C.take k) (M.take k)) (List.range j) t=(stD t C M j,true):=by
  intro j
  induction j with
  |zero=>intro _;rfl
  |succ j ih=>
    intro hj
    rw[List.range_succ,foldB_append,ih (by omega)]
    simp only[if_true]
    have ht:=h.turn j (by omega)
    have e1:(C.take k).getD j []=C.getD j []:=by simp[List.getD,List.getElem?_take,show j<k by omega]
    have e2:(M.take k).getD j []=M.getD j []:=by simp[List.getD,List.getElem?_take,show j<k by omega]
    have hs:playStep (C.take k) (M.take k) (stD t C M j) j=(stD t C M (j+1),true):=by
     unfold playStep
     rw[e1,e2,if_pos ⟨ht.chg,ht.are⟩];rfl
    simp only[foldB,hs,if_true]
 have:=key k (Nat.le_refl k)
 unfold playF
 rw[List.length_take,Nat.min_eq_left (by omega)]
 exact this
theorem Driv.playR {t C M n}(h:Driv t C M n)(hC:n≤C.length)(hM:n≤M.length) {k:Nat}(hk:k≤n):playR t (C.take k) (M.take k)=(stD t C M k,0):=by
 have htu:=h.tu
 unfold Go.Proofs.YtnglkclmplfnpaaGreat.playR
 rw[doorB_iff.2 h.ok,if_pos rfl,if_pos (by simp only[List.length_take];omega),if_pos (by simp only[List.length_take];omega),h.play hC hk,if_pos rfl]
def opnD(t:DTrap)(C M:List (List Int))(n:Nat):List (List Int):=(List.range n).map fun i=>doorsL (changedT (stD t C M i) (C.getD i []))
def rowsD(t:DTrap)(C M:List (List Int))(n:Nat):List (List Int):=(List.range (n+1)).map fun i=>chamL (stD t C M i)
def trapD(t:DTrap)(C M:List (List Int))(n:Nat):CTrap:=⟨t.chambers,(n:Int)+1,opnD t C M n,[]⟩
def wordD(t:DTrap)(c:Nat):CWord:=⟨0,(c:Int),(chamL t).getD c 0,(chamL t).getD c 0⟩
def wordsD(t:DTrap):List CWord:=(List.range t.chambers.toNat).map (wordD t)
def firstD(t:DTrap)(C M:List (List Int))(n:Nat):CTrap:=⟨t.chambers,(n:Int)+1,opnD t C M n,wordsD t⟩
theorem opnD_at {t C M n} {i:Nat}(hi:i<n):(opnD t C M n).getD i []=doorsL (changedT (stD t C M i) (C.getD i [])):=by simp[opnD,List.getD,hi]
theorem rowsD_at {t C M n} {i:Nat}(hi:i≤n):(rowsD t C M n).getD i []=chamL (stD t C M i):=by simp[rowsD,List.getD,Nat.lt_succ_of_le hi]
theorem rowsX_D {t C M n}(h:Driv t C M n) {i:Nat}(hi:i≤n)(c:Nat):rowsX (rowsD t C M n) i c=behG (stD t C M i).groups c:=by
 unfold rowsX;rw[rowsD_at hi,behind_cham (h.at hi).ok]
theorem doorsL_in {p:DTrap}(h:RowOk p): ∀x∈doorsL p,1≤x∧x≤p.chambers-1:=fun x hx=>by
 obtain⟨i,hi,_,rfl⟩:=mem_doorsL.1 hx
 have:=h.len
 omega
theorem cham_le {t:DTrap}(h:DoorOk t)(c:Nat):0≤(chamL t).getD c 0∧(chamL t).getD c 0≤behG t.groups 0:=by
 have hn:=cham_nonneg h
 rw[←behind_cham h 0]
 have key: ∀(l:List Int),(∀x∈l,0≤x)→ ∀c,0≤l.getD c 0∧l.getD c 0≤l.sum∧0≤l.sum:=by
  intro l
  induction l with
  |nil=>intro _ c;simp
  |cons x l ih=>
    intro hl c
    have h1:=hl x (by simp)
    rw[List.sum_cons]
    cases c with
    |zero=>have:=ih (fun y hy=>hl y (by simp[hy])) 0;simp only[List.getD_cons_zero];omega
    |succ c=>have:=ih (fun y hy=>hl y (by simp[hy])) c;simp only[List.getD_cons_succ];omega
 have:=key _ hn c
 exact⟨this.1,by simpa [behindL]using this.2.1⟩
theorem trap_of {t C M n}(h:Driv t C M n)(ws:List CWord)(hw:ws.length≤8)(hb: ∀w∈ws,wordOk ⟨t.chambers,(n:Int)+1,opnD t C M n,ws⟩ w=true):trapB ⟨t.chambers,(n:Int)+1,opnD t C M n,ws⟩=true:=by
 have h1:=h.ok.ch
 have h2:=h.ok.tu
 have h3:=h.tu
 simp only[trapB,Bool.and_eq_true,wiB_iff,decide_eq_true_eq,allB,List.all_eq_true]
 refine⟨h1,by omega,by simp[opnD],hw,fun l hl=> ?_,hb⟩
 obtain⟨i,hi,rfl⟩:=List.mem_map.1 hl
 have hi:=List.mem_range.1 hi
 have hs:=h.at (Nat.le_of_lt hi)
 refine rising_iff.2 ⟨doorsL_rise _,fun x hx=> ?_⟩
 have:=doorsL_in (row_changed hs.row _) x hx
 have e:(changedT (stD t C M i) (C.getD i [])).chambers=t.chambers:=hs.ch
 omega
theorem trapD_ok {t C M n}(h:Driv t C M n):trapB (trapD t C M n)=true:=trap_of h [] (by simp) (by simp)
theorem firstD_ok {t C M n}(h:Driv t C M n):trapB (firstD t C M n)=true:=by
 have h1:=h.ok.ch
 refine trap_of h (wordsD t) (by simp[wordsD];omega) fun w hw=> ?_
 obtain⟨c,hc,rfl⟩:=List.mem_map.1 hw
 have hc:=List.mem_range.1 hc
 have:=cham_le h.ok c
 have:=h.sum
 refine wordOk_iff.2 ⟨⟨by simp[wordD],by simp only[wordD];omega⟩,⟨by simp[wordD],by simp only[wordD];omega⟩,by simp only[wordD];omega,by simp only[wordD];omega,by simp only[wordD];omega⟩
theorem first_sol {t C M n}(h:Driv t C M n):Sol (firstD t C M n) (rowsX (rowsD t C M n)):=by
 have h1:=h.ok.ch
 have eT:(firstD t C M n).T=n+1:=by show((n:Int)+1).toNat=_;omega
 have eC:(firstD t C M n).C=t.chambers.toNat:=rfl
 have hlen: ∀i,i≤n→((rowsD t C M n).getD i []).length=t.chambers.toNat:=fun i hi=>by rw[rowsD_at hi,chamL_len,(h.at hi).ch]
 refine⟨fun i hi=> ?_,fun i hi=> ?_,fun i c hi hc=> ?_,fun i c hi hc=> ?_,fun w hw=> ?_⟩
 ·rw[eT]at hi;rw[eC]
  exact behind_end (by rw[hlen i (by omega)];omega)
 ·rw[eT]at hi
  rw[rowsX_D h (by omega),(h.at (by omega:i≤n)).all];exact h.sum
 ·rw[eT]at hi;rw[eC]at hc
  have hl:=hlen i (by omega)
  have:=rowsX_at (L:=rowsD t C M n) (i:=i) (c:=c) (by omega)
  rw[rowsD_at (by omega)]at this
  have:=cham_le (h.at (by omega:i≤n)).ok c
  omega
 ·rw[eT]at hi
  have hs:=h.at (by omega:i≤n)
  have ht:=h.turn i (by omega)
  have hl:=turn_law hs.ok hs.row ht.are ht.fwd c
  rw[rowsX_D h (by omega),rowsX_D h (by omega)]
  refine⟨hl.1,fun hd=> ?_⟩
  refine Int.not_lt.1 fun hlt=> ?_
  have hm:=hl.2 hlt
  have e:doorB (firstD t C M n) i c=(doorsL (changedT (stD t C M i) (C.getD i []))).any fun d=>decide (d=(c:Int)):=by
   unfold doorB;rw[show(firstD t C M n).opn=opnD t C M n from rfl,opnD_at (by omega)]
  rw[e]at hd
  have:=List.any_eq_false.1 hd _ hm
  simp at this
 ·obtain⟨c,hc,rfl⟩:=List.mem_map.1 hw
  have hc:=List.mem_range.1 hc
  have hl:=hlen 0 (Nat.zero_le _)
  have:=rowsX_at (L:=rowsD t C M n) (i:=0) (c:=c) (by omega)
  rw[rowsD_at (Nat.zero_le _)]at this
  simp only[wordD,Int.toNat_natCast,Int.toNat_zero]
  have e:stD t C M 0=t:=rfl
  rw[e]at this
  omega
theorem less_D {t C M n}:Less (firstD t C M n) (trapD t C M n):=⟨rfl,rfl,rfl,fun w hw=>by simp[trapD]at hw⟩
theorem sum_cham {t:DTrap}(h:DoorOk t):(chamL t).sum=behG t.groups 0:=by rw[←behind_cham h 0];rfl
theorem first_all {t C M n}(h:Driv t C M n) {x}(hx:Sol (firstD t C M n) x): ∀i,i≤n→x i 0=behG t.groups 0:=by
 have h1:=h.ok.ch
 have eT:(firstD t C M n).T=n+1:=by show((n:Int)+1).toNat=_;omega
 have eC:(firstD t C M n).C=t.chambers.toNat:=rfl
 have hcl:=chamL_len t
 have h0: ∀k,k≤t.chambers.toNat→x 0 (t.chambers.toNat-k)=behindL (chamL t) (t.chambers.toNat-k):=by
  intro k
  induction k with
  |zero=>
    intro _
    rw[Nat.sub_zero,behind_end (by omega)]
    exact hx.last 0 (by omega)
  |succ k ih=>
    intro hk
    have i1:=ih (by omega)
    have hw:=hx.word (wordD t (t.chambers.toNat-(k+1))) (List.mem_map.2 ⟨_,List.mem_range.2 (by omega),rfl⟩)
    simp only[wordD,Int.toNat_natCast,Int.toNat_zero]at hw
    have hs:=behind_step (r:=chamL t) (c:=t.chambers.toNat-(k+1)) (by omega)
    rw[show t.chambers.toNat-(k+1)+1=t.chambers.toNat-k by omega]at hw hs
    omega
 intro i
 induction i with
 |zero=>
   intro _
   have:=h0 t.chambers.toNat (Nat.le_refl _)
   rw[Nat.sub_self,behind_cham h.ok]at this
   exact this
 |succ i ih=>
   intro hi
   have i1:=ih (by omega)
   have hs:=hx.step i 0 (by omega) (by omega)
   have hd:doorB (firstD t C M n) i 0=false:=by
    unfold doorB
    rw[show(firstD t C M n).opn=opnD t C M n from rfl,opnD_at (by omega),List.any_eq_false]
    intro y hy
    obtain⟨j,_,_,rfl⟩:=mem_doorsL.1 hy
    simp;omega
   have:=hs.2 hd
   omega
theorem span_ext {a b:CSp}(h1:a.lo=b.lo)(h2:a.hi=b.hi):a=b:=by cases a;cases b;simp_all
theorem first_says {t C M n}(h:Driv t C M n):
 wholeC (firstD t C M n) n=(⟨behG t.groups 0,behG t.groups 0⟩,0)∧cameC (firstD t C M n) 0 n=(⟨0,0⟩,0)∧
 ∃a b:CSp,fishC (trapD t C M n) n (t.chambers-1)=(a,0)∧fishC (firstD t C M n) n (t.chambers-1)=(b,0)∧a.lo≤b.lo∧b.lo≤(chamL (stD t C M n)).getD (t.chambers-1).toNat 0∧(chamL (stD t C M n)).getD (t.chambers-1).toNat 0≤b.hi∧b.hi≤a.hi:=by
 have h1:=h.ok.ch
 have hF:=firstD_ok h
 have hA:=trapD_ok h
 have oF:=trapB_ok hF
 have oA:=trapB_ok hA
 have sF:=first_sol h
 have sA:=less_D.sol sF
 have iF:=(isOne_iff oF).2 ⟨_,sF⟩
 have iA:=(isOne_iff oA).2 ⟨_,sA⟩
 have eT:(firstD t C M n).T=n+1:=by show((n:Int)+1).toNat=_;omega
 have eT2:(trapD t C M n).T=n+1:=by show((n:Int)+1).toNat=_;omega
 have eC:(firstD t C M n).C=t.chambers.toNat:=rfl
 have eC2:(trapD t C M n).C=t.chambers.toNat:=rfl
 have hC0:t.chambers-1=((t.chambers.toNat-1:Nat):Int):=by omega
 refine⟨?_,?_,?_⟩
 ·have hd:=difR_spec oF ⟨_,sF⟩ (i:=n) (c:=0) (j:=n) (d:=(firstD t C M n).C) (by omega) (Nat.zero_le _) (by omega) (Nat.le_refl _)
  have e:difR (firstD t C M n) n 0 n (firstD t C M n).C=⟨behG t.groups 0,behG t.groups 0⟩:=by
   obtain⟨x,hx,e1⟩:=hd.lo
   obtain⟨y,hy,e2⟩:=hd.hi
   have a1:=first_all h hx n (Nat.le_refl _)
   have a2:=first_all h hy n (Nat.le_refl _)
   have b1:=hx.last n (by omega)
   have b2:=hy.last n (by omega)
   exact span_ext (by rw[e1,a1,b1];simp) (by rw[e2,a2,b2];simp)
  have hp:wiB (n:Int) 0 ((firstD t C M n).times-1)=true:=wiB_iff.2 ⟨by omega,by show _≤(n:Int)+1-1;omega⟩
  unfold wholeC
  rw[hp,openT_of hF,if_pos iF,if_pos rfl,Int.toNat_natCast,e,if_pos rfl]
 ·have hd:=difR_spec oF ⟨_,sF⟩ (i:=n) (c:=0) (j:=0) (d:=0) (by omega) (Nat.zero_le _) (by omega) (Nat.zero_le _)
  rw[cameC_in hF iF (by omega)]
  have e:difR (firstD t C M n) n 0 0 0=⟨0,0⟩:=by
   obtain⟨x,hx,e1⟩:=hd.lo
   obtain⟨y,hy,e2⟩:=hd.hi
   have a1:=first_all h hx n (Nat.le_refl _)
   have a2:=first_all h hy n (Nat.le_refl _)
   have b1:=first_all h hx 0 (Nat.zero_le _)
   have b2:=first_all h hy 0 (Nat.zero_le _)
   exact span_ext (by rw[e1,a1,b1];simp) (by rw[e2,a2,b2];simp)
  rw[e]
 ·have hF1:=difR_spec oF ⟨_,sF⟩ (i:=n) (c:=t.chambers.toNat-1) (j:=n) (d:=t.chambers.toNat-1+1) (by omega) (by omega) (by omega) (by omega)
  have hA1:=difR_spec oA ⟨_,sA⟩ (i:=n) (c:=t.chambers.toNat-1) (j:=n) (d:=t.chambers.toNat-1+1) (by omega) (by omega) (by omega) (by omega)
  have hL:=less_D.dif hF1 hA1
  have hx:=hF1.all _ sF
  have hlen:((rowsD t C M n).getD n []).length=t.chambers.toNat:=by rw[rowsD_at (Nat.le_refl _),chamL_len,h.st.ch]
  have hr:=rowsX_at (L:=rowsD t C M n) (i:=n) (c:=t.chambers.toNat-1) (by omega)
  rw[rowsD_at (Nat.le_refl _)]at hr
  rw[hr]at hx
  refine⟨_,_,by rw[hC0];exact fishC_in hA iA (by omega) (by omega),by rw[hC0];exact fishC_in hF iF (by omega) (by omega),hL.1,?_,?_,hL.2.2⟩
  ·rw[show(t.chambers-1).toNat=t.chambers.toNat-1 by omega];exact hx.1
  ·rw[show(t.chambers-1).toNat=t.chambers.toNat-1 by omega];exact hx.2
end Go.Proofs.YtnglkclmplfnpaaGreat

/-
  TopDriven: counts.follows, of rows that follow.
-/
namespace Go.Proofs.YtnglkclmplfnpaaGreat
open Go.Ab
structure FolOk(prev next op:List Int):Prop where
 len:prev.length=next.length
 nl:next.length≤1000
 ol:op.length<4611686018427387904
 b1: ∀x∈prev,0≤x∧x≤1000
 b2: ∀x∈next,0≤x∧x≤1000
 up: ∀d:Nat,d<next.length→0≤behindL next d-behindL prev d∧behindL next d-behindL prev d≤1000∧(0<behindL next d-behindL prev d→anyB (fun y=>decide (y=(d:Int))) op=true)
def folE(D:Nat):Env:=[(3, .ptr D 48 0),(5, .ptr D 80 0),(6, .ptr D 96 0),(7, .ptr D 112 0),(11, .fn 78 [] [.ptr D 176 0])]
def folLp(D:Nat)(x:LoopState)(y:Option Ex):Entry:= .loop [12,13] b40l0 b40l1 (folE D) x y
def folL(prev next op:List Int)(n:Int)(e:Entry):Ab.Loc:=
 [(48, .cell [.sl .no 1 (es cInt prev)]),(80, .cell [.sl .no 1 (es cInt op)]),(96, .cell [.bool false]),(112, .cell [i64 n]),(176, .cell [.sl .no 1 (es cInt next)]),(10247,e)]
set_option maxHeartbeats 4000000 in
theorem fol_round(prev next op:List Int)(h:FolOk prev next op)(s:Stk)(i:Nat)(hi:i<next.length)(n:Int)(hn:n=behindL next (i+1)-behindL prev (i+1))(en:Entry):
 ∃e2 fr2,Run T b40l1 [(3, .ptr s.length 48 0),(5, .ptr s.length 80 0),(6, .ptr s.length 96 0),(7, .ptr s.length 112 0),(8,i64 i),(9,i64 next[i])]
  ([]::[]::folL prev next op n en::s)=some (.normal,e2,fr2::[]::folL prev next op (behindL next i-behindL prev i) en::s):=by
 have hip:i<prev.length:=by have:=h.len;omega
 have hd: ¬s.length=s.length+1+1:=by omega
 have hd1: ¬s.length=s.length+1:=by omega
 have i1:(i:Int)<prev.length:=by omega
 have b1:=h.b1 _ (List.getElem_mem hip)
 have b2:=h.b2 _ (List.getElem_mem hi)
 have s1:=behind_step hip
 have s2:=behind_step hi
 have u1:=h.up i hi
 rw[show prev.getD i 0=prev[i]by simp[List.getD,hip]]at s1
 rw[show next.getD i 0=next[i]by simp[List.getD,hi]]at s2
 have e0:n+(next[i]-prev[i])=behindL next i-behindL prev i:=by omega
 generalize behindL next i-behindL prev i=m at*
 generalize hu:prev[i]=u at*
 generalize hv:next[i]=v at*
 have w1:IntKind.i64.wrap (v-u)=v-u:=wi _ (by omega) (by omega)
 have w2:IntKind.i64.wrap (n+(v-u))=m:=by rw[e0];exact wi _ (by omega) (by omega)
 simp only[b40l1,folL]
 have c1: ¬m<0:=by omega
 have hc:=fun S lab=>e_Contains op (i:Int) S h.ol lab
 refine⟨[(6, .ptr s.length 96 0),(33, .bool false)],[],?_⟩
 by_cases c2:0<m
 ·rw[u1.2.2 c2]at hc
  simp (maxSteps:=1000000) (disch:=first|omega|assumption|decide +kernel|(simp;done)|(simp;omega)|fail) [run_drawnK,orSlow_none,hd,hd1,hip,i1,hu,w1,w2,c1,c2,hc]
 ·simp (maxSteps:=1000000) (disch:=first|omega|assumption|decide +kernel|(simp;done)|(simp;omega)|fail) [run_drawnK,orSlow_none,hd,hd1,hip,i1,hu,w1,w2,c1,c2]
end Go.Proofs.YtnglkclmplfnpaaGreat

/-
  TopDriven: counts.follows, whole; counts.Holds, of a truth.
-/
namespace Go.Proofs.YtnglkclmplfnpaaGreat
open Go.Ab
def folY(prev:List Int)(a:Int)(x:Int×Nat):Int×Bool:=(a+(x.1-prev.getD x.2 0),true)
def folSt(D:Nat)(prev next op:List Int)(a:Int):Ab.Loc:=folL prev next op a (folLp D .ready none)
set_option maxHeartbeats 1000000 in
theorem fol_yield(prev next op:List Int)(h:FolOk prev next op)(s:Stk)(i:Nat)(hi:i<next.length)(a:Int)(ha:a=behindL next (i+1)-behindL prev (i+1))(lab:Nat):
 denV T (.yld s.length 10247) [i64 i,i64 next[i]] lab ([]::folSt s.length prev next op a::s)=some (.bool true,[]::folSt s.length prev next op (behindL next i-behindL prev i)::s):=by
 have top: ∀(n:Int) (en:Entry),sget ([]::folL prev next op n en::s) s.length 10247=some en:=fun n en=>by
  rw[sget_cons,if_neg (by simp only[List.length_cons];omega),sget_cons,if_pos rfl];rfl
 have put: ∀(n:Int) (en en':Entry),sput ([]::folL prev next op n en::s) s.length 10247 en'=[]::folL prev next op n en'::s:=fun n en en'=>by
  rw[sput_cons,if_neg (by simp only[List.length_cons];omega),sput_cons,if_pos rfl];rfl
 obtain⟨e2,fr2,hB⟩:=fol_round prev next op h s i hi a ha (folLp s.length .busy none)
 have hA:Run T b40l0 (bindEnv [12,13] [i64 i,i64 next[i]] (folE s.length)) ([]::[]::folL prev next op a (folLp s.length .ready none)::s)=
  some (.normal,[(3, .ptr s.length 48 0),(5, .ptr s.length 80 0),(6, .ptr s.length 96 0),(7, .ptr s.length 112 0),(8,i64 i),(9,i64 next[i])],[]::[]::folL prev next op a (folLp s.length .ready none)::s):=by
  generalize next[i]=p
  generalize folL prev next op a (folLp s.length .ready none)=L
  simp[b40l0,folE,bindEnv]
 have e0:folSt s.length prev next op a=folL prev next op a (folLp s.length .ready none):=rfl
 rw[e0]
 generalize behindL next i-behindL prev i=m at hB⊢
 have:=yld_run (T:=T) (d:=s.length) (l:=10247) (args:=[i64 i,i64 next[i]]) (lab:=lab) (ps:=[12,13]) (A:=b40l0) (B:=b40l1) (env:=folE s.length) (ex:= .normal) (st:= .busy) (p:=none)
  (s:=[]::folL prev next op a (folLp s.length .ready none)::s) (s3:=[]::folL prev next op m (folLp s.length .busy none)::s) (top _ _) rfl hA (by simp only[List.length_cons];omega) (e2:=e2) (fr2:=fr2) (by rw[put];exact hB) (top _ _)
 rw[this,put]
 rfl
theorem fol_step {prev next op:List Int}(h:FolOk prev next op) {i:Nat}(hi:i<next.length):behindL next (i+1)-behindL prev (i+1)+(next[i]-prev.getD i 0)=behindL next i-behindL prev i:=by
 have hip:i<prev.length:=by have:=h.len;omega
 have s1:=behind_step hip
 have s2:=behind_step hi
 rw[show next.getD i 0=next[i]by simp[List.getD,hi]]at s2
 omega
set_option maxHeartbeats 2000000 in
theorem e_follows(prev next op:List Int)(h:FolOk prev next op)(lab s):den T 40 [.sl .no 1 (es cInt prev), .sl .no 1 (es cInt next), .sl .no 1 (es cInt op)] lab s=some (.bool true,s):=by
 have hn:=h.nl
 have hb:=fun lab=>e_back1 (bl:=176) next (by omega) 10247 s (folSt s.length prev next op) (fun k a=>a=behindL next (next.length-k)-behindL prev (next.length-k)) (folY prev) (fun a=>rfl) (fun k a hk hi=>by
  have hi2:next.length-1-k<next.length:=by omega
  have e1:next.length-k=next.length-1-k+1:=by omega
  rw[e1]at hi
  have e2:(folY prev a (next[next.length-1-k],next.length-1-k)).1=behindL next (next.length-1-k)-behindL prev (next.length-1-k):=by
   rw[hi];exact fol_step h hi2
  refine⟨fun lab=> ?_,fun _=> ?_⟩
  ·rw[e2];exact fol_yield prev next op h s _ hi2 a hi lab
  ·rw[e2,show next.length-(k+1)=next.length-1-k by omega]) 0 (by rw[behind_end (by omega),behind_end (by have:=h.len;omega)];rfl) lab
 have hB:=fun lab loc s h=>e_Backward next lab loc s h
 have et:(foldB (folY prev) next.zipIdx.reverse 0).2=true:=by
  unfold folY;rw[foldB_true]
 generalize foldB (folY prev) next.zipIdx.reverse 0=q at hb et
 obtain⟨a,bb⟩:=q
 simp only at et
 subst et
 simp only[folSt,folL,folLp,folE]at hb
 rw[den_fn t40 _ _ _ rfl]
 simp only[b40]
 simp (maxSteps:=1000000) (disch:=first|omega|assumption|decide +kernel|(simp;done)|(simp;omega)|fail) [run_drawnK,hb,hB]
structure RowK(C:Nat)(r:List Int):Prop where
 len:r.length=C
 nn: ∀k,k<C→0≤r.getD k 0
 sum: ∀k,k<C→behindL r 0-behindL r k+r.getD k 0≤40
 up: ∀k,k≤C→0≤behindL r 0-behindL r k
def hol1(D:Nat)(L:List (List Int))(r:List Int)(i k:Nat):Env:=[(1, .sl .no 1 (es cInts L)),(2, .ptr D 32 0),(7,i64 i),(8, .sl .no 1 (es cInt r)),(9,i64 (behindL r 0-behindL r k)),(24, .sl .no 1 (es cInts L)),(25,i64 L.length),(26,i64 i),(36, .sl .no 1 (es cInt r)),(37,i64 r.length),(38,i64 k)]
set_option maxHeartbeats 2000000 in
theorem hold_l1(t:CTrap)(L:List (List Int))(r:List Int)(i C:Nat)(hC:C≤100)(h:RowK C r)(s:Stk):
 Run T b19l1 (hol1 s.length L r i 0) ([(32, .cell (vT t))]::s)=some (.exit 2,hol1 s.length L r i r.length ++[(39, .bool false)],[(32, .cell (vT t))]::s):=by
 have hlen:=h.len
 have key:=loop_fold (T:=T) (live:=[1,2,7,8,9,24,25,26,36,37,38]) (keep:=[32,208,240,1056,1440]) (b:=d19l1) r (fun _ (_:Unit)=>True) (fun a _=>a)
  (fun k _=>hol1 s.length L r i k) (fun _ _=>[(32, .cell (vT t))]::s) (fun _=>(.exit 2,hol1 s.length L r i r.length ++[(39, .bool false)],[(32, .cell (vT t))]::s))
  (by simp) ?_ ?_ ?_ () trivial (hol1 s.length L r i 0) ([(32, .cell (vT t))]::s) (by simp[hol1]) (by simp)
 ·exact key
 ·intro k _ hk _
  have hk2:(k:Int)<r.length:=by omega
  have hn:=h.nn k (by omega)
  have hs:=h.sum k (by omega)
  have hu:=h.up k (by omega)
  have st:=behind_step hk
  rw[show r.getD k 0=r[k]by simp[List.getD,hk]]at hn hs st
  generalize hv:r[k]=v at*
  have e1:behindL r 0-behindL r (k+1)=behindL r 0-behindL r k+v:=by omega
  simp only[hol1]
  rw[e1]
  generalize behindL r 0-behindL r k=a at*
  have w1:IntKind.i64.wrap (40-a)=40-a:=wi _ (by omega) (by omega)
  have w2:IntKind.i64.wrap (a+v)=a+v:=wi _ (by omega) (by omega)
  have w3:wiB v 0 (40-a)=true:=wiB_iff.2 ⟨hn,by omega⟩
  simp (maxSteps:=1000000) (disch:=first|omega|assumption|decide +kernel|(simp;done)|(simp;omega)|fail) [hk,hk2,hv,w1,w2,w3,wk k (by omega)]
 ·intro k _ hk _;trivial
 ·intro a _
  simp[hol1]
structure HoldOk(t:CTrap)(L:List (List Int)):Prop where
 len:L.length=t.T
 row: ∀i,i<t.T→RowK t.C (L.getD i [])
 fol: ∀i,i+1<t.T→FolOk (L.getD i []) (L.getD (i+1) []) (t.opn.getD i [])
def hol0(D:Nat)(L:List (List Int))(k:Nat):Env:=[(1, .sl .no 1 (es cInts L)),(2, .ptr D 32 0),(24, .sl .no 1 (es cInts L)),(25,i64 L.length),(26,i64 k)]
set_option maxHeartbeats 2000000 in
theorem hold_l0(t:CTrap)(ht:TrapOk t)(L:List (List Int))(h:HoldOk t L)(s:Stk):
 Run T b19l0 (hol0 s.length L 0) ([(32, .cell (vT t))]::s)=some (.exit 0,hol0 s.length L L.length ++[(27, .bool false)],[(32, .cell (vT t))]::s):=by
 have hlen:=h.len
 have hcc:=ht.cc
 have htt:=ht.tt
 have hopn:=ht.opn
 have eT:t.T=t.times.toNat:=rfl
 have eC:t.C=t.chambers.toNat:=rfl
 have key:=loop_fold (T:=T) (live:=[1,2,24,25,26]) (keep:=[32,208,240,1440]) (b:=d19l0) L (fun _ (_:Unit)=>True) (fun a _=>a)
  (fun k _=>hol0 s.length L k) (fun _ _=>[(32, .cell (vT t))]::s) (fun _=>(.exit 0,hol0 s.length L L.length ++[(27, .bool false)],[(32, .cell (vT t))]::s))
  (by simp) ?_ ?_ ?_ () trivial (hol0 s.length L 0) ([(32, .cell (vT t))]::s) (by simp[hol0]) (by simp)
 ·exact key
 ·intro k _ hk _
  have hk2:(k:Int)<L.length:=by omega
  have hR:=h.row k (by omega)
  have hl1:=hold_l1 t L (L.getD k []) k t.C (by omega) hR s
  have eg:L.getD k []=L[k]:=by simp[List.getD,hk]
  rw[eg]at hR hl1
  have hrl:=hR.len
  have hrl2:(L[k].length:Int)=t.chambers:=by omega
  have hz:behindL L[k] 0-behindL L[k] 0=0:=by omega
  simp only[hol1,hz,hrl2]at hl1
  simp only[hol0]
  cases k with
  |zero=>
    simp only[show((0:Nat):Int)=0 from rfl]at hl1
    generalize hv:L[0]=r at*
    generalize behindL r 0-behindL r r.length=q at*
    have w0:IntKind.i64.wrap 1=1:=wi _ (by omega) (by omega)
    simp (maxSteps:=1000000) (disch:=first|omega|assumption|decide +kernel|(simp;done)|(simp;omega)|fail) [run_drawnK,orSlow_none,hk,hk2,hv,hrl2,hl1,w0]
  |succ j=>
    have hj:j<L.length:=by omega
    have hk3:(j:Int)+1<L.length:=by omega
    have hk4:0≤(j:Int)+1:=by omega
    simp only[show((j+1:Nat):Int)=(j:Int)+1 from rfl,show((0:Nat):Int)=0 from rfl]at hl1
    have hj2:(j:Int)<L.length:=by omega
    have hF:=h.fol j (by omega)
    have hjo:j<t.opn.length:=by omega
    have hjo2:(j:Int)<t.opn.length:=by omega
    have eg2:L.getD j []=L[j]:=by simp[List.getD,hj]
    have eg3:t.opn.getD j []=t.opn[j]:=by simp[List.getD,hjo]
    rw[eg,eg2,eg3]at hF
    have hfl:=fun lab s=>e_follows _ _ _ hF lab s
    generalize hv:L[j+1]=r at*
    generalize hv2:L[j]=r2 at*
    generalize hv3:t.opn[j]=o at*
    generalize behindL r 0-behindL r r.length=q at*
    have w1:IntKind.i64.wrap ((j:Int)+1-1)=j:=by rw[wi _ (by omega) (by omega)];omega
    have w2:IntKind.i64.wrap (j:Int)=j:=wi _ (by omega) (by omega)
    have w3:IntKind.i64.wrap ((j:Int)+1+1)=(j:Int)+1+1:=wi _ (by omega) (by omega)
    simp (maxSteps:=1000000) (disch:=first|omega|assumption|decide +kernel|(simp;done)|(simp;omega)|fail) [run_drawnK,orSlow_none,hk,hk3,hk4,hv,hv2,hv3,hj,hj2,hjo,hjo2,hrl2,hl1,hfl,w1,w2,w3]
 ·intro k _ hk _;trivial
 ·intro a _
  simp[hol0]
theorem hold_l2(t:CTrap)(L:List (List Int))(s:Stk):Run T b19l2 [(1, .sl .no 1 (es cInts L)),(71, .sl .no 4 []),(72,i64 0),(73,i64 0)] ([(32, .cell (vT t))]::s)=some (.exit 4,[(1, .sl .no 1 (es cInts L)),(71, .sl .no 4 []),(72,i64 0),(73,i64 0),(74, .bool false)],[(32, .cell (vT t))]::s):=by
 have:=loop_all (T:=Go.Proofs.YtnglkclmplfnpaaGreat.T) (live:=[1,71,72,73]) (keep:=[32,240,720,1056]) (b:=d19l2) ([]:List Nat) (fun _=>true) (fun _=>[(1, .sl .no 1 (es cInts L)),(71, .sl .no 4 []),(72,i64 0),(73,i64 0)]) (fun _=>[(32, .cell (vT t))]::s) (.ret,[],[]) (.exit 4,[(1, .sl .no 1 (es cInts L)),(71, .sl .no 4 []),(72,i64 0),(73,i64 0),(74, .bool false)],[(32, .cell (vT t))]::s) (by simp) (by simp) (fun k hk=>by simp at hk) (by simp)
  [(1, .sl .no 1 (es cInts L)),(71, .sl .no 4 []),(72,i64 0),(73,i64 0)] ([(32, .cell (vT t))]::s) (by simp) (by simp)
 exact this
set_option maxHeartbeats 2000000 in
theorem e_Holds01(t:CTrap)(hs:ShortT t)(hB:trapB t=true)(hw:t.words=[])(L:List (List Int))(h:HoldOk t L)(lab s):den T 19 [.agg (vT t), .sl .no 1 (es cInts L)] lab s=some (.tup [.bool true,i64 0],s):=by
 have hok:=trapB_ok hB
 have hlen:=h.len
 have htt:=hok.tt
 have eT:t.T=t.times.toNat:=rfl
 have hl:(L.length:Int)=t.times:=by omega
 have hc:=fun lab s=>e_Check1C t hs lab s
 have h0:=hold_l0 t hok L h s
 have h2:=hold_l2 t L s
 simp only[hol0,hl,show((0:Nat):Int)=0 from rfl]at h0
 simp only[vT,hw,es_nil]at h0 h2 hc⊢
 rw[den_fn t19 _ _ _ rfl]
 simp only[b19]
 simp (maxSteps:=1000000) (disch:=first|omega|assumption|decide +kernel|(simp;done)|(simp;omega)|fail) [hc,hB,hl,h0,h2]
theorem hold_of {t:CTrap}(ht:TrapOk t) {L:List (List Int)}(hl:L.length=t.T)(hr: ∀i,i<t.T→(L.getD i []).length=t.C)(ho: ∀i,(t.opn.getD i []).length≤1000)(hx:Sol t (rowsX L)):HoldOk t L:=by
 have hcc:=ht.cc
 have eC:t.C=t.chambers.toNat:=rfl
 have anti: ∀i,i<t.T→ ∀k,k≤t.C→rowsX L i k≤rowsX L i 0:=by
  intro i hi k
  induction k with
  |zero=>intro _;omega
  |succ k ih=>intro hk;have:=ih (by omega);have:=hx.down i k hi (by omega);omega
 have val: ∀i,i<t.T→ ∀k,k<t.C→(L.getD i []).getD k 0=rowsX L i k-rowsX L i (k+1):=fun i hi k hk=>(rowsX_at (by rw[hr i hi];exact hk)).symm
 have bnd: ∀i,i<t.T→ ∀x∈L.getD i [],0≤x∧x≤1000:=by
  intro i hi x hm
  obtain⟨k,hk,rfl⟩:=List.getElem_of_mem hm
  have hk2:k<t.C:=by rw[←hr i hi];exact hk
  have e: ∀(r:List Int) (hk:k<r.length),r[k]=r.getD k 0:=fun r hk=>by simp[List.getD,hk]
  have v:=val i hi k hk2
  have d:=hx.down i k hi hk2
  have b1:=hx.nonneg hi (Nat.le_of_lt hk2)
  have b2:=hx.nonneg hi (show k+1≤t.C from hk2)
  rw[e _ hk];omega
 refine⟨hl,fun i hi=>⟨hr i hi,fun k hk=> ?_,fun k hk=> ?_,fun k hk=> ?_⟩,fun i hi=>⟨by rw[hr i (by omega),hr (i+1) hi],by rw[hr _ hi];omega,by have:=ho i;omega,bnd i (by omega),bnd (i+1) hi,fun d hd=> ?_⟩⟩
 ·have v:=val i hi k hk
  have d:=hx.down i k hi hk
  omega
 ·have v:=val i hi k hk
  have b1:=hx.top i hi
  have b2:=hx.nonneg hi (show k+1≤t.C from hk)
  unfold rowsX at*
  omega
 ·have:=anti i hi k hk
  unfold rowsX at this
  omega
 ·rw[hr _ hi]at hd
  have st:=hx.step i d hi hd
  have b1:=hx.nonneg (show i<t.T by omega) (Nat.le_of_lt hd)
  have b2:=hx.nonneg hi (Nat.le_of_lt hd)
  unfold rowsX at*
  refine⟨by omega,by omega,fun hp=> ?_⟩
  have hdb:doorB t i d=true:=by
   cases e:doorB t i d
   ·have:=st.2 e;omega
   ·rfl
  exact hdb
end Go.Proofs.YtnglkclmplfnpaaGreat

/-
  TopDriven: no group goes back.
-/
namespace Go.Proofs.YtnglkclmplfnpaaGreat
open Go.Ab
def fwdAt(p:DTrap)(m:List Int)(k:Nat):Bool:=decide (¬m.getD k 0<(p.groups.getD k ⟨0,0⟩).pos)
def fwdB(p:DTrap)(m:List Int):Bool:=allB (fwdAt p m) (List.range m.length)
abbrev drC(ch x:Int)(d:Nat)(O:List (List Int)):List V:=[i64 ch,i64 x, .sl (.own d 116) 1 (es cInts O), .sl .full 4 []]
abbrev drF(t:DTrap)(x:Int)(d:Nat)(O:List (List Int))(p:DTrap)(R:List (List Int)):Ab.Loc:=[(48, .cell (dV t)),(112, .cell (drC t.chambers x d O)),(144, .cell (dV p)),(116, .tok O.length),(129, .tok R.length)]
abbrev drE(d:Nat)(C M R:List (List Int))(k:Nat):Env:=[(1, .sl .no 1 (es cInts C)),(2, .sl .no 1 (es cInts M)),(3, .ptr d 48 0),(7, .ptr d 112 0),(8, .sl (.own d 129) 1 (es cInts R)),(9, .ptr d 144 0),(10,i64 (k:Nat))]
set_option maxHeartbeats 4000000 in
theorem dr_l1(t:DTrap)(C M:List (List Int))(x:Int)(O R:List (List Int))(p q:DTrap)(k:Nat)(hkM:k<M.length)(hol:p.groups.length≤40)(hml:M[k].length=p.groups.length)(s:Stk):
 Run T b3l1 (drE s.length C M R k ++[(11, .ptr s.length 176 0),(12,i64 0)]) ((drF t x s.length O p R ++[(176, .cell (dV q))])::s)=
  if fwdB p M[k]=true then some (.exit 2,drE s.length C M R k ++[(11, .ptr s.length 176 0),(12,i64 M[k].length),(120, .bool false)],(drF t x s.length O p R ++[(176, .cell (dV q))])::s)
  else some (.ret,[(6, .bool true)],(drF t x s.length O p R ++[(176, .cell (dV q))])::s):=by
 have hkM2:(k:Int)<M.length:=by omega
 refine loop_all (List.range M[k].length) (fwdAt p M[k]) (fun j=>drE s.length C M R k ++[(11, .ptr s.length 176 0),(12,i64 (j:Nat))]) (fun _=>(drF t x s.length O p R ++[(176, .cell (dV q))])::s) _ _ (by simp) (by simp) ?_ ?_ _ _ (by simp) (by simp)
 ·intro j hj
  simp only[List.length_range]at hj
  rw[List.getElem_range]
  have hj2:(j:Int)<M[k].length:=by omega
  have hg:j<p.groups.length:=by omega
  have hg2:(j:Int)<p.groups.length:=by omega
  have hd:=fun lab s=>e_driven lab s
  unfold fwdAt
  rw[show p.groups.getD j ⟨0,0⟩=p.groups[j]by simp[List.getD,hg],show M[k].getD j 0=M[k][j]by simp[List.getD,hj]]
  generalize hG:p.groups[j]=G at*
  generalize hm:M[k]=m at*
  generalize hv:m[j]=v at*
  by_cases c1:v<G.pos
  ·simp (maxSteps:=6000000) (disch:=first|omega|assumption|decide +kernel|(simp;done)|(simp;omega)|fail) [run_drawnK,orSlow_none,hkM,hkM2,hm,hj,hj2,hg,hg2,hG,hv,c1,hd]
  ·simp (maxSteps:=6000000) (disch:=first|omega|assumption|decide +kernel|(simp;done)|(simp;omega)|fail) [run_drawnK,orSlow_none,hkM,hkM2,hm,hj,hj2,hg,hg2,hG,hv,c1,hd,wk j (by omega)]
 ·generalize hm:M[k]=m at*
  simp (maxSteps:=1000000) (disch:=first|omega|assumption|decide +kernel|(simp;done)|(simp;omega)|fail) [hkM,hkM2,hm]
end Go.Proofs.YtnglkclmplfnpaaGreat

/-
  TopDriven: the turns.
-/
namespace Go.Proofs.YtnglkclmplfnpaaGreat
open Go.Ab
def turnB(t:DTrap)(C M:List (List Int))(i:Nat):Bool:=
 decide ((C.getD i []).length≤40)&&(decide ((M.getD i []).length≤40)&&(isChangeB (stD t C M i).hands (stD t C M i).gates.length (C.getD i [])&&(areB (changedT (stD t C M i) (C.getD i [])) (M.getD i [])&&fwdB (stD t C M i) (M.getD i []))))
structure DrI(t:DTrap)(C M:List (List Int))(k:Nat):Prop where
 d:Driv t C M k
 c40: ∀i,i<k→(C.getD i []).length≤40
 m40: ∀i,i<k→(M.getD i []).length≤40
theorem isChange_D {t:DTrap}(h:DoorOk t) {c:List Int}:isChangeB t.hands t.gates.length c=true↔c∈choicesS t.hands.toNat t.gates.length:=by
 have hh:=h.ha
 have:=isChange_mem (h:=t.hands.toNat) (g:=t.gates.length) (c:=c)
 rwa [show((t.hands.toNat:Nat):Int)=t.hands by omega]at this
theorem DrI.step {t C M} {k:Nat}(h:DrI t C M k)(hk:(k:Int)<t.turns)(hb:turnB t C M k=true):DrI t C M (k+1):=by
 simp only[turnB,Bool.and_eq_true,decide_eq_true_eq]at hb
 obtain⟨h1,h2,h3,h4,h5⟩:=hb
 have hml:=movesT_len (t:=stD t C M k) (mem_movesT.2 h4)
 refine⟨⟨h.d.ok,h.d.row,by omega,h.d.sum,fun i hi=> ?_⟩,fun i hi=> ?_,fun i hi=> ?_⟩
 ·by_cases e:i<k
  ·exact h.d.turn i e
  ·obtain rfl:i=k:=by omega
   refine⟨h3,h4,fun j hj=> ?_⟩
   simp only[fwdB,allB,List.all_eq_true,List.mem_range,fwdAt,decide_eq_true_eq]at h5
   have:=h5 j (by omega)
   rw[show(stD t C M i).groups.getD j ⟨0,0⟩=(stD t C M i).groups[j]by simp[List.getD,hj]]at this
   omega
 ·by_cases e:i<k
  ·exact h.c40 i e
  ·obtain rfl:i=k:=by omega
   exact h1
 ·by_cases e:i<k
  ·exact h.m40 i e
  ·obtain rfl:i=k:=by omega
   exact h2
theorem foldB_unit {α:Type}(f:α→Bool): ∀l:List α,(foldB (fun(_:Unit) i=>((),f i)) l ()).2=l.all f
 |[]=>rfl
 |x::l=>by
   cases h:f x
   ·simp[foldB,h]
   ·simp[foldB,h,foldB_unit f l]
theorem DrI.all {t C M}(h:DrI t C M 0): ∀ {n:Nat},(n:Int)≤t.turns→(List.range n).all (turnB t C M)=true→DrI t C M n
 |0,_,_=>h
 |n+1,hn,hb=>by
   rw[List.range_succ,List.all_append,Bool.and_eq_true]at hb
   exact(h.all (n:=n) (by omega) hb.1).step (by omega) (by simpa using hb.2)
theorem opnD_succ(t C M)(k:Nat):opnD t C M (k+1)=opnD t C M k ++[doorsL (changedT (stD t C M k) (C.getD k []))]:=by simp[opnD,List.range_succ]
theorem rowsD_succ(t C M)(k:Nat):rowsD t C M (k+1)=rowsD t C M k ++[chamL (stD t C M (k+1))]:=by simp[rowsD,List.range_succ]
@[simp] theorem opnD_len(t C M)(k:Nat):(opnD t C M k).length=k:=by simp[opnD]
@[simp] theorem rowsD_len(t C M)(k:Nat):(rowsD t C M k).length=k+1:=by simp[rowsD]
theorem take40 {C:List (List Int)} {k:Nat}(h: ∀i,i<k→(C.getD i []).length≤40): ∀x∈C.take k,x.length≤40:=fun x hx=>by
 obtain⟨i,hi,rfl⟩:=List.getElem_of_mem hx
 rw[List.length_take]at hi
 have:=h i (by omega)
 rw[List.getElem_take]
 rw[show C.getD i []=C[i]by simp[List.getD,show i<C.length by omega]]at this
 exact this
end Go.Proofs.YtnglkclmplfnpaaGreat

/-
  TopDriven: the loop of the turns.
-/
namespace Go.Proofs.YtnglkclmplfnpaaGreat
open Go.Ab
abbrev drE0(d:Nat)(C M:List (List Int))(r:List Int):Env:=[(8, .sl (.own d 129) 1 [[.sl .no 1 (es cInt r)]]),(1, .sl .no 1 (es cInts C)),(2, .sl .no 1 (es cInts M)),(3, .ptr d 48 0),(7, .ptr d 112 0),(8, .sl .full 1 [[.sl .no 1 (es cInt r)]]),(9, .ptr d 144 0),(10,i64 0)]
abbrev drF0(t:DTrap)(d:Nat):Ab.Loc:=[(48, .cell (dV t)),(112, .cell [i64 t.chambers,i64 1, .sl (.own d 116) 1 [], .sl .full 4 []]),(1104, .tok t.gates.length),(2104, .tok t.groups.length),(144, .cell [i64 t.chambers,i64 t.turns,i64 t.hands, .sl (.own d 1104) 3 (es cGate t.gates), .sl (.own d 2104) 2 (es cGroup t.groups)]),(116, .tok 0),(129, .tok 1)]
set_option maxHeartbeats 16000000 in
theorem dr_l0(t:DTrap)(C M:List (List Int))(h:DrI t C M 0)(hl:C.length=M.length)(hT:(C.length:Int)≤t.turns)(s:Stk):
 ∃g:Ab.Loc,Run T b3l0 (drE0 s.length C M (chamL t)) (drF0 t s.length::s)=
  if (foldB (fun(_:Unit) i=>((),turnB t C M i)) (List.range C.length) ()).2=true then some (.exit 0,drE s.length C M (rowsD t C M C.length) C.length ++[(73, .bool false)],drF t ((C.length:Int)+1) s.length (opnD t C M C.length) (stD t C M C.length) (rowsD t C M C.length)::s)
  else some (.ret,[(6, .bool true)],g::s):=by
 have htu:=h.d.ok.tu
 have hch:=h.d.ok.ch
 have htl:=h.d.ok.gl
 have htl2:=h.d.ok.ol
 refine loop_list_e (T:=Go.Proofs.YtnglkclmplfnpaaGreat.T) (γ:=Ab.Loc) (live:=[1,2,3,7,8,9,10]) (keep:=[48,112,116,129,144]) (b:=d3l0) (List.range C.length) (fun k (_:Unit)=>DrI t C M k) (fun k _=>drE s.length C M (rowsD t C M k) k) (fun k _=>drF t ((k:Int)+1) s.length (opnD t C M k) (stD t C M k) (rowsD t C M k)::s)
  (fun _ i=>((),turnB t C M i)) (fun g _=>(.ret,[(6, .bool true)],g::s)) (fun _=>(.exit 0,drE s.length C M (rowsD t C M C.length) C.length ++[(73, .bool false)],drF t ((C.length:Int)+1) s.length (opnD t C M C.length) (stD t C M C.length) (rowsD t C M C.length)::s)) (by simp) (by simp) ?_ ?_ () h (drE0 s.length C M (chamL t)) (drF0 t s.length::s) (by simp[rowsD,stD,es]) (by simp[stD,opnD,rowsD])
 ·intro k _ hk hi
  simp only[List.length_range]at hk
  simp only[List.getElem_range]
  have hk2:(k:Int)<C.length:=by omega
  have hkM:k<M.length:=by omega
  have hkM2:(k:Int)<M.length:=by omega
  have hst:=hi.d.st
  have e1:C.getD k []=C[k]:=by simp[List.getD,hk]
  have e2:M.getD k []=M[k]:=by simp[List.getD,hkM]
  have hs:=doorB_short (doorB_iff.2 hst.ok)
  have hd:=fun lab s=>e_driven lab s
  have hstep:=hi.step (by omega:(k:Int)<t.turns)
  have hic:=fun(h40:C[k].length≤40) lab s=>e_IsChange (stD t C M k) hs C[k] (by omega) lab s
  have hcg:=fun(h40:C[k].length≤40) (hcc:isChangeB (stD t C M k).hands (stD t C M k).gates.length C[k]=true) lab s=>e_Changed (stD t C M k) hs C[k] (by omega) (mem_choices.1 ((isChange_D hst.ok).1 hcc)).2.2 (mem_choices.1 ((isChange_D hst.ok).1 hcc)).2.1 lab s
  have hok2:=changed_ok hst.ok C[k]
  have har:=fun(hm:M[k].length≤40) lab s=>e_AreMoves (changedT (stD t C M k) C[k]) hok2 M[k] (by omega) lab s
  have hT0:0<(stD t C M k).turns:=by have:=hst.tu;omega
  have hmv:=fun(hcc:areB (changedT (stD t C M k) C[k]) M[k]=true) lab s=>e_Moved (changedT (stD t C M k) C[k]) (doorB_short (doorB_iff.2 hok2)) ⟨hT0,hst.ok.tu.2⟩ M[k] (show M[k].length=(stD t C M k).groups.length from movesT_len (t:=stD t C M k) (mem_movesT.2 hcc)) lab s
  have hl1:=fun(hcc:areB (changedT (stD t C M k) C[k]) M[k]=true)=>dr_l1 t C M ((k:Int)+1) (opnD t C M k) (rowsD t C M k) (stD t C M k) (changedT (stD t C M k) C[k]) k hkM (by have:=hst.ok.ol;omega) (movesT_len (t:=stD t C M k) (mem_movesT.2 hcc)) s
  have hop:=fun lab s=>e_openDoors (changedT (stD t C M k) C[k]) (by have:=hok2.gl;omega) lab s
  have hcases:turnB t C M k=(decide (C[k].length≤40)&&(decide (M[k].length≤40)&&(isChangeB (stD t C M k).hands (stD t C M k).gates.length C[k]&&(areB (changedT (stD t C M k) C[k]) M[k]&&fwdB (stD t C M k) M[k])))):=by unfold turnB;rw[e1,e2]
  have hO:=opnD_succ t C M k
  have hR:=rowsD_succ t C M k
  rw[e1]at hO
  have hu:stD t C M (k+1)=movedT (changedT (stD t C M k) C[k]) M[k]:=by rw[←e1,←e2];rfl
  have hlC: ∀(hh:DrI t C M (k+1)) lab s,den T 15 [.sl .no 1 (es cInts (C.take (k+1)))] lab s=some (.sl .no 1 (es cInts (C.take (k+1))),s):=fun hh lab s=>e_lines _ (by rw[List.length_take];omega) (take40 hh.c40) lab s
  have hlM: ∀(hh:DrI t C M (k+1)) lab s,den T 15 [.sl .no 1 (es cInts (M.take (k+1)))] lab s=some (.sl .no 1 (es cInts (M.take (k+1))),s):=fun hh lab s=>e_lines _ (by rw[List.length_take];omega) (take40 hh.m40) lab s
  have hpl: ∀(hh:DrI t C M (k+1)) lab s,den T 14 [.agg (dV t), .sl .no 1 (es cInts (C.take (k+1))), .sl .no 1 (es cInts (M.take (k+1)))] lab s=some (.tup [.agg (dV (stD t C M (k+1))),i64 0],s):=fun hh lab s=>by
   have:=e_Play t (doorB_short (doorB_iff.2 h.d.ok)) (C.take (k+1)) (M.take (k+1)) (by rw[List.length_take];omega) (by rw[List.length_take];omega) (take40 hh.c40) (take40 hh.m40) lab s
   rw[hh.d.playR (by omega) (by omega) (Nat.le_refl _)]at this
   exact this
  have hsm: ∀(hh:DrI t C M (k+1)) lab s,den T 17 [.agg (dV (stD t C M (k+1))), .agg (dV (stD t C M (k+1)))] lab s=some (.bool true,s):=fun hh lab s=>e_SameD _ (by have:=hh.d.st.ok.gl;omega) (by have:=hh.d.st.ok.ol;omega) lab s
  have hch2: ∀(hh:DrI t C M (k+1)) lab s,den T 8 [.agg (dV (stD t C M (k+1)))] lab s=some (.sl .no 1 (es cInt (chamL (stD t C M (k+1)))),s):=fun hh lab s=>e_inChambers _ hh.d.st.ok lab s
  rw[hcases]at hstep⊢
  rw[←hu]at hmv
  rw[hO,hR]
  clear hu hO hR e1 e2 hcases hs hok2 hst
  have eO:es cInts (opnD t C M k) ++[[.sl .no 1 (es cInt (doorsL (changedT (stD t C M k) C[k])))]]=es cInts (opnD t C M k ++[doorsL (changedT (stD t C M k) C[k])]):=by simp[es]
  have eR:es cInts (rowsD t C M k) ++[[.sl .no 1 (es cInt (chamL (stD t C M (k+1))))]]=es cInts (rowsD t C M k ++[chamL (stD t C M (k+1))]):=by simp[es]
  have lO:=opnD_len t C M k
  have lR:=rowsD_len t C M k
  have w1:IntKind.i64.wrap ((k:Int)+1)=(k:Int)+1:=wi _ (by omega) (by omega)
  have w2:IntKind.i64.wrap ((k:Int)+1+1)=(k:Int)+1+1:=wi _ (by omega) (by omega)
  have k1:0≤(k:Int)+1:=by omega
  have k2:(k:Int)+1≤C.length:=by omega
  have k3:(k:Int)+1≤M.length:=by omega
  generalize opnD t C M k=O at*
  generalize rowsD t C M k=R at*
  generalize doorsL (changedT (stD t C M k) C[k])=dl at*
  generalize changedT (stD t C M k) C[k]=q at*
  generalize chamL (stD t C M (k+1))=cl at*
  generalize stD t C M (k+1)=u at*
  generalize stD t C M k=p at*
  generalize hx:C[k]=c at*
  generalize hy:M[k]=m at*
  generalize hCt:C.take (k+1)=C' at*
  generalize hMt:M.take (k+1)=M' at*
  by_cases c1:c.length≤40
  rotate_left
  ·have c1':(40:Int)<c.length:=by omega
   simp only[c1,decide_false,Bool.false_and]
   refine⟨fun hb=>absurd hb (by simp),fun _=>⟨drF t ((k:Int)+1) s.length O p R,?_⟩⟩
   simp (maxSteps:=1000000) (disch:=first|omega|assumption|decide +kernel|(simp;done)|(simp;omega)|fail) [run_drawnK,orSlow_none,hk,hk2,hx,c1',hd]
  have c1': ¬(40:Int)<c.length:=by omega
  by_cases c2:m.length≤40
  rotate_left
  ·have c2':(40:Int)<m.length:=by omega
   simp only[c2,decide_false,Bool.false_and,Bool.and_false]
   refine⟨fun hb=>absurd hb (by simp),fun _=>⟨drF t ((k:Int)+1) s.length O p R,?_⟩⟩
   simp (maxSteps:=1000000) (disch:=first|omega|assumption|decide +kernel|(simp;done)|(simp;omega)|fail) [run_drawnK,orSlow_none,hk,hk2,hkM,hkM2,hx,hy,c1',c2',hd]
  have c2': ¬(40:Int)<m.length:=by omega
  have hic:=hic c1
  cases hcc:isChangeB p.hands p.gates.length c
  ·rw[hcc]at hic
   simp only[Bool.false_and,Bool.and_false]
   refine⟨fun hb=>absurd hb (by simp),fun _=>⟨drF t ((k:Int)+1) s.length O p R,?_⟩⟩
   simp (maxSteps:=1000000) (disch:=first|omega|assumption|decide +kernel|(simp;done)|(simp;omega)|fail) [run_drawnK,orSlow_none,hk,hk2,hkM,hkM2,hx,hy,c1',c2',hic,hd]
  rw[hcc]at hic
  have hcg1:=hcg c1 hcc
  have har1:=har c2
  cases haa:areB q m
  ·rw[haa]at har1
   simp only[Bool.false_and,Bool.and_false]
   refine⟨fun hb=>absurd hb (by simp),fun _=>⟨drF t ((k:Int)+1) s.length O p R ++[(176, .cell (dV q))],?_⟩⟩
   simp (maxSteps:=1000000) (disch:=first|omega|assumption|decide +kernel|(simp;done)|(simp;omega)|fail) [run_drawnK,orSlow_none,hk,hk2,hkM,hkM2,hx,hy,c1',c2',hic,hcg1,har1,hd]
  rw[haa]at har1
  have hmv1:=hmv haa
  have hl11:=hl1 haa
  simp only[drF,drE,drC,dV,List.cons_append,List.nil_append]at hl11
  cases hff:fwdB p m
  ·rw[hff]at hl11
   simp only[Bool.false_eq_true,if_false]at hl11
   simp only[Bool.and_false]
   refine⟨fun hb=>absurd hb (by simp),fun _=>⟨drF t ((k:Int)+1) s.length O p R ++[(176, .cell (dV q))],?_⟩⟩
   simp (maxSteps:=1000000) (disch:=first|omega|assumption|decide +kernel|(simp;done)|(simp;omega)|fail) [run_drawnK,orSlow_none,hk,hk2,hkM,hkM2,hx,hy,c1',c2',hic,hcg1,har1,hl11]
  rw[hff]at hl11
  simp only[if_true,lO,lR]at hl11
  have hh:=hstep (by rw[hcc,haa,hff];simp[c1,c2])
  have hlC1:=hlC hh
  have hlM1:=hlM hh
  have hpl1:=hpl hh
  have hsm1:=hsm hh
  have hch3:=hch2 hh
  simp only[c1,c2,decide_true,Bool.and_true,true_implies]
  refine⟨⟨?_,hh⟩,fun hb=>absurd hb (by simp)⟩
  simp (maxSteps:=1000000) (disch:=first|omega|assumption|decide +kernel|(simp;done)|(simp;omega)|fail) [run_drawnK,orSlow_none,hk,hk2,hkM,hkM2,hx,hy,c1',c2',hic,hcg1,har1,hl11,k1,k2,k3,hCt,hMt,hlC1,hlM1,hpl1,hmv1,hsm1,w1,w2,hop,eO,eR,lO,lR,hch3,appK_own1]
 ·intro _ hi
  simp
end Go.Proofs.YtnglkclmplfnpaaGreat

/-
  TopDriven: what was there at first, as words.
-/
namespace Go.Proofs.YtnglkclmplfnpaaGreat
open Go.Ab
abbrev fsE(d:Nat)(R:List (List Int))(all:Int)(k:Nat):Env:=[(3, .ptr d 48 0),(7, .ptr d 112 0),(8, .sl .no 1 (es cInts R)),(17,i64 all),(18, .ptr d 288 0),(19,i64 (k:Nat))]
abbrev fsF(t:DTrap)(x:Int)(d:Nat)(O:List (List Int))(p:DTrap)(a:List CWord):Ab.Loc:=[(48, .cell (dV t)),(112, .cell [i64 t.chambers,i64 x, .sl .no 1 (es cInts O), .sl .full 4 []]),(144, .cell (dV p)),(288, .cell [i64 t.chambers,i64 x, .sl .no 1 (es cInts O), .sl (.own d 293) 4 (es cWord a)]),(293, .tok a.length)]
abbrev fsE0(d:Nat)(R:List (List Int))(all:Int):Env:=[(3, .ptr d 48 0),(7, .ptr d 112 0),(8, .sl (.own d 129) 1 (es cInts R)),(17,i64 all),(18, .ptr d 288 0),(19,i64 0)]
abbrev fsF0(t:DTrap)(x:Int)(d:Nat)(O:List (List Int))(p:DTrap)(n:Nat):Ab.Loc:=[(48, .cell (dV t)),(112, .cell [i64 t.chambers,i64 x, .sl (.own d 116) 1 (es cInts O), .sl .full 4 []]),(144, .cell (dV p)),(116, .tok n),(129, .tok (n+1)),(2960, .tok n),(3232, .tok n),(288, .cell [i64 t.chambers,i64 x, .sl (.own d 3232) 1 (es cInts O), .sl (.own d 293) 4 []]),(293, .tok 0)]
set_option maxHeartbeats 8000000 in
theorem dr_l2(t:DTrap)(h:DoorOk t)(x:Int)(O R:List (List Int))(p:DTrap)(all:Int)(n:Nat)(hR:0<R.length)(hR0:R[0]=chamL t)(s:Stk):
 Run T b3l2 (fsE0 s.length R all) (fsF0 t x s.length O p n::s)=some (.exit 4,fsE s.length R all t.chambers.toNat ++[(206, .bool false)],fsF t x s.length O p (wordsD t)::s):=by
 have hch:=h.ch
 obtain⟨c,hc⟩: ∃c:Nat,t.chambers=c:=⟨t.chambers.toNat,by omega⟩
 have hc2:t.chambers.toNat=c:=by omega
 have hlen:=chamL_len t
 rw[hc2]at hlen
 have key:=loop_fold (T:=T) (live:=[3,7,8,17,18,19]) (keep:=[48,112,144,288,293]) (b:=d3l2) (List.range c) (fun k (a:List CWord)=>a.length=k) (fun a i=>a ++[wordD t i])
  (fun k _=>fsE s.length R all k) (fun _ a=>fsF t x s.length O p a::s) (fun a=>(.exit 4,fsE s.length R all c ++[(206, .bool false)],fsF t x s.length O p a::s)) (by simp) ?_ ?_ ?_ [] rfl (fsE0 s.length R all) (fsF0 t x s.length O p n::s) (by simp) (by simp)
 ·rw[snocF (wordD t),List.nil_append]at key
  unfold wordsD
  rw[hc2]
  exact key
 ·intro k a hk hi
  simp only[List.length_range]at hk
  rw[List.getElem_range]
  have hk2:(k:Int)<c:=by omega
  have hkl:k<(chamL t).length:=by omega
  have hkl2:(k:Int)<(chamL t).length:=by omega
  have e: ∀(r:List Int) (hk:k<r.length),r.getD k 0=r[k]:=fun r hk=>by simp[List.getD,hk]
  unfold wordD
  rw[e _ hkl]
  have hR2:(0:Int)<R.length:=by omega
  generalize hr:chamL t=r at*
  generalize hv:r[k]=v at*
  have e0:es cWord a ++[[i64 0,i64 (k:Int),i64 v,i64 v]]=es cWord (a ++[⟨0,k,v,v⟩]):=by simp[es]
  simp (maxSteps:=6000000) (disch:=first|omega|assumption|decide +kernel|(simp;done)|(simp;omega)|fail) [run_drawnK,orSlow_none,hc,hk2,hkl,hkl2,hR,hR2,hR0,hv,e0,appK_own1,hi,wk k (by omega)]
 ·intro k a hk hi
  simp[hi]
 ·intro a hi
  simp[hc]
end Go.Proofs.YtnglkclmplfnpaaGreat

/-
  TopDriven: its equation, of a trap in a row with so many fish.
-/
namespace Go.Proofs.YtnglkclmplfnpaaGreat
open Go.Ab
theorem trapD_eq(t C M n):trapD t C M n=⟨t.chambers,(n:Int)+1,opnD t C M n,[]⟩:=rfl
theorem firstD_eq(t C M n):firstD t C M n=⟨t.chambers,(n:Int)+1,opnD t C M n,wordsD t⟩:=rfl
theorem getD_at(r:List Int)(i:Nat)(h:i<r.length):r.getD i 0=r[i]:=by simp[List.getD,h]
set_option maxHeartbeats 16000000 in
theorem e_Driven_go(t:DTrap)(C M:List (List Int))(h:DrI t C M 0)(hl:C.length=M.length)(hT:(C.length:Int)≤t.turns)(lab s):
 den T 3 [.agg (dV t), .sl .no 1 (es cInts C), .sl .no 1 (es cInts M)] lab s=some (.bool true,s):=by
 have ho:=h.d.ok
 have hch:=ho.ch
 have htu:=ho.tu
 have hgl:=ho.gl
 have hol:=ho.ol
 have hs:=doorB_short (doorB_iff.2 ho)
 have hHu:=fun lab s=>e_Huge t lab s
 rw[decide_eq_false (by omega),decide_eq_false (by omega)]at hHu
 have hCk:=fun lab s=>e_CheckR t hs lab s
 rw[doorB_iff.2 ho]at hCk
 have hRo:=fun lab s=>e_inRow t (by omega) (by omega) lab s
 rw[inRow_iff.2 h.d.row]at hRo
 have hIn:=fun lab s=>e_inChambers t ho lab s
 have hsc:=sum_cham ho
 have hsum:=h.d.sum
 have hSu:=fun lab s=>e_Sum (chamL t) (by rw[chamL_len];omega) (fun x hx=>by
  obtain⟨i,hi,rfl⟩:=List.getElem_of_mem hx
  have:=cham_le ho i
  rw[getD_at _ _ hi]at this;omega) lab s
 rw[hsc]at hSu
 have hn40: ¬40<behG t.groups 0:=by omega
 have hcp:=fun lab loc s k0 k1=>e_CopyD t hs lab loc s k0 k1
 have hd:=fun lab s=>e_driven lab s
 obtain⟨g,hlp⟩:=dr_l0 t C M h hl hT s
 rw[foldB_unit]at hlp
 have hall:=h.all hT
 obtain⟨n,hn⟩: ∃n,C.length=n:=⟨_,rfl⟩
 have hm:M.length=n:=by omega
 rw[hn]at hlp hall hT
 have hT': ¬t.turns<(n:Int):=by omega
 have e1:es cInts [chamL t]=[[.sl .no 1 (es cInt (chamL t))]]:=rfl
 cases hb:(List.range n).all (turnB t C M)
 ·rw[hb]at hlp
  simp only[drF0,drE0,dV,Bool.false_eq_true,if_false]at hlp
  rw[den_fn t3 _ _ _ rfl]
  simp only[b3]
  simp (maxSteps:=6000000) (disch:=first|omega|assumption|decide +kernel|(simp;done)|(simp;omega)|fail) [run_drawnK,orSlow_none,hHu,hCk,hRo,hIn,hSu,hn40,hn,hm,hT,hT',hcp,hlp]
 ·rw[hb]at hlp hall
  have hD:=hall rfl
  clear hall
  have hbA:=trapD_ok hD.d
  have hbF:=firstD_ok hD.d
  have okA:=trapB_ok hbA
  have sF:=first_sol hD.d
  have eT:(trapD t C M n).T=n+1:=by show((n:Int)+1).toNat=_;omega
  have eC:(trapD t C M n).C=t.chambers.toNat:=rfl
  have hlen: ∀i,i≤n→((rowsD t C M n).getD i []).length=t.chambers.toNat:=fun i hi=>by rw[rowsD_at hi,chamL_len,(hD.d.at hi).ch]
  have hho:=hold_of okA (L:=rowsD t C M n) (by rw[rowsD_len,eT]) (fun i hi=>by rw[eT]at hi;rw[eC];exact hlen i (by omega)) (fun i=>by
   by_cases hi:i<n
   ·rw[show(trapD t C M n).opn=opnD t C M n from rfl,opnD_at hi,doorsL_eq,List.length_map]
    have:=List.length_filter_le (fun j=>((changedT (stD t C M i) (C.getD i [])).gates.getD j ⟨0,0,false⟩).op) (List.range (changedT (stD t C M i) (C.getD i [])).gates.length)
    rw[List.length_range]at this
    have:=(changed_ok (hD.d.at (Nat.le_of_lt hi)).ok (C.getD i [])).gl
    omega
   ·rw[show(trapD t C M n).opn=opnD t C M n from rfl]
    simp[opnD,List.getD,hi]) (less_D.sol sF)
  have hHo:=fun lab s=>e_Holds01 (trapD t C M n) (trapB_copy hbA).short hbA rfl (rowsD t C M n) hho lab s
  have hcA:=trapB_copy hbA
  have hCo:=fun loc s lab k0=>e_Copy01_0 (trapD t C M n) hcA.short hcA.opn hcA.each rfl loc s lab k0
  have hLi:=fun lab s=>e_lines (rowsD t C M n) (by rw[rowsD_len];omega) (fun x hx=>by
   obtain⟨i,hi,rfl⟩:=List.getElem_of_mem hx
   rw[rowsD_len]at hi
   have:=hlen i (by omega)
   rw[show(rowsD t C M n).getD i []=(rowsD t C M n)[i]'(by rw[rowsD_len];exact hi)by simp[List.getD,hi]]at this
   omega) lab s
  obtain⟨f1,f2,a,b,f3,f4,q1,q2,q3,q4⟩:=first_says hD.d
  have hWh:=fun lab s=>e_Whole (firstD t C M n) (trapB_copy hbF).short hbF n lab s
  have hCa:=fun lab s=>e_Came (firstD t C M n) (trapB_copy hbF).short hbF 0 n lab s
  have hF1:=fun lab s=>e_Fish (trapD t C M n) hcA.short hbA n (t.chambers-1) lab s
  have hF2:=fun lab s=>e_Fish (firstD t C M n) (trapB_copy hbF).short hbF n (t.chambers-1) lab s
  rw[f1]at hWh
  rw[f2]at hCa
  rw[f3]at hF1
  rw[f4]at hF2
  have lR:=rowsD_len t C M n
  have lO:=opnD_len t C M n
  have g0:=rowsD_at (t:=t) (C:=C) (M:=M) (Nat.zero_le n)
  have gn:=rowsD_at (t:=t) (C:=C) (M:=M) (Nat.le_refl n)
  obtain⟨R,hRR⟩: ∃R,rowsD t C M n=R:=⟨_,rfl⟩
  obtain⟨O,hOO⟩: ∃O,opnD t C M n=O:=⟨_,rfl⟩
  rw[hRR]at g0 gn lR
  rw[hOO]at lO
  have lR1:n<R.length:=by omega
  have lR2:(n:Int)<R.length:=by omega
  have lR3:0<R.length:=by omega
  have lR4:(0:Int)<R.length:=by omega
  rw[show R.getD 0 []=R[0]by simp[List.getD,lR3]]at g0
  rw[show R.getD n []=R[n]by simp[List.getD,lR1]]at gn
  have g0:R[0]=chamL t:=g0
  have hl2:=fun p=>dr_l2 t ho ((n:Int)+1) O R p (behG t.groups 0) n lR3 g0 s
  have hcl:(chamL (stD t C M n)).length=t.chambers.toNat:=by rw[chamL_len,hD.d.st.ch]
  obtain⟨c,hc⟩: ∃c:Nat,t.chambers-1=c:=⟨(t.chambers-1).toNat,by omega⟩
  have hc1:IntKind.i64.wrap (t.chambers-1)=c:=by rw[hc];exact wi _ (by omega) (by omega)
  rw[hc]at hF1 hF2 q2 q3
  rw[Int.toNat_natCast]at q2 q3
  have hcc:c<(chamL (stD t C M n)).length:=by omega
  have hcc2:(c:Int)<(chamL (stD t C M n)).length:=by omega
  rw[getD_at _ _ hcc]at q2 q3
  have w1:IntKind.i64.wrap (n:Int)=n:=wi _ (by omega) (by omega)
  have w2:IntKind.i64.wrap ((n:Int)+1-1)=n:=by rw[wi _ (by omega) (by omega)];omega
  have tn:=trapD_eq t C M n
  have fn:=firstD_eq t C M n
  rw[hOO]at tn fn
  rw[tn]at hHo hCo hF1
  rw[fn]at hWh hCa hF2
  rw[hRR]at hHo hLi
  simp only[vT,es_nil]at hHo hCo hWh hCa hF1 hF2
  simp only[fsF0,fsE0,fsF,fsE,dV,List.cons_append,List.nil_append]at hl2
  simp only[hOO,hRR]at hlp
  simp only[drF0,drE0,drF,drE,drC,dV,lO,lR,if_true,List.cons_append,List.nil_append]at hlp
  obtain⟨ws,hws⟩: ∃ws,wordsD t=ws:=⟨_,rfl⟩
  obtain⟨p,hp⟩: ∃p,stD t C M n=p:=⟨_,rfl⟩
  obtain⟨al,hal⟩: ∃al,behG t.groups 0=al:=⟨_,rfl⟩
  rw[hws]at hl2 hWh hCa hF2
  rw[hp]at hlp
  rw[hal]at hSu hl2 hWh hn40
  have hcR:c<R[n].length:=by rw[gn];exact hcc
  have hcR2:(c:Int)<R[n].length:=by omega
  obtain⟨v,hv⟩: ∃v,R[n][c]=v:=⟨_,rfl⟩
  have ev:(chamL (stD t C M n))[c]=v:=by rw[←hv];simp only[gn]
  rw[ev]at q2 q3
  clear gn ev
  obtain⟨a1,a2⟩:=a
  obtain⟨b1,b2⟩:=b
  simp only at q1 q2 q3 q4 hF1 hF2
  rw[den_fn t3 _ _ _ rfl]
  simp only[b3]
  simp (maxSteps:=6000000) (disch:=first|omega|assumption|decide +kernel|(simp;done)|(simp;omega)|fail) [run_drawnK,orSlow_none,hHu,hCk,hRo,hIn,hSu,hn40,hn,hm,hT,hT',hcp,hlp,hCo,hLi,hHo,hl2,hWh,hCa,hF1,hF2,g0,lO,lR1,lR2,lR3,lR4,hc1,hcR,hcR2,hv,w1,w2,q1,q2,q3,q4,hd,eqCells]
end Go.Proofs.YtnglkclmplfnpaaGreat

/-
  TopDriven: its equation.
-/
namespace Go.Proofs.YtnglkclmplfnpaaGreat
open Go.Ab
set_option maxHeartbeats 16000000 in
theorem e_TopDriven(t:DTrap)(hs:ShortD t)(C:List (List Int))(hcl:C.length<4611686018427387904)(hcx: ∀x,x∈C→x.length<4611686018427387904)(M:List (List Int))(hml:M.length<4611686018427387904)(hmx: ∀x,x∈M→x.length<4611686018427387904)(lab s):
 den T 3 [.agg (dV t), .sl .no 1 (es cInts C), .sl .no 1 (es cInts M)] lab s=some (.bool true,s):=by
 have hd:=fun lab s=>e_driven lab s
 have hHu:=fun lab s=>e_Huge t lab s
 by_cases h1:40<t.gates.length∨40<t.groups.length
 ·rw[show(decide (40<t.gates.length)||decide (40<t.groups.length))=true by simpa using h1]at hHu
  rw[den_fn t3 _ _ _ rfl]
  simp only[b3]
  simp (maxSteps:=6000000) (disch:=first|omega|assumption|decide +kernel|(simp;done)|(simp;omega)|fail) [run_drawnK,orSlow_none,hHu,hd]
 rw[show(decide (40<t.gates.length)||decide (40<t.groups.length))=false by simpa using h1]at hHu
 have hCk:=fun lab s=>e_CheckR t hs lab s
 cases h2:doorBDd t
 ·rw[h2]at hCk
  rw[den_fn t3 _ _ _ rfl]
  simp only[b3]
  simp (maxSteps:=6000000) (disch:=first|omega|assumption|decide +kernel|(simp;done)|(simp;omega)|fail) [run_drawnK,orSlow_none,hHu,hCk,hd]
 rw[h2]at hCk
 have ho:=doorB_iff.1 h2
 have hch:=ho.ch
 have htu:=ho.tu
 have hRo:=fun lab s=>e_inRow t (by omega) (by omega) lab s
 cases h3:inRowB t
 ·rw[h3]at hRo
  rw[den_fn t3 _ _ _ rfl]
  simp only[b3]
  simp (maxSteps:=6000000) (disch:=first|omega|assumption|decide +kernel|(simp;done)|(simp;omega)|fail) [run_drawnK,orSlow_none,hHu,hCk,hRo,hd]
 rw[h3]at hRo
 have hrow:=inRow_iff.1 h3
 by_cases h4:C.length=M.length
 rotate_left
 ·have h4': ¬(C.length:Int)=M.length:=by omega
  rw[den_fn t3 _ _ _ rfl]
  simp only[b3]
  simp (maxSteps:=6000000) (disch:=first|omega|assumption|decide +kernel|(simp;done)|(simp;omega)|fail) [run_drawnK,orSlow_none,hHu,hCk,hRo,h4',hd]
 by_cases h5:(C.length:Int)≤t.turns
 rotate_left
 ·obtain⟨n,hn⟩: ∃n,C.length=n:=⟨_,rfl⟩
  have hm:M.length=n:=by omega
  rw[hn]at h5
  have h5':t.turns<(n:Int):=by omega
  rw[den_fn t3 _ _ _ rfl]
  simp only[b3]
  simp (maxSteps:=6000000) (disch:=first|omega|assumption|decide +kernel|(simp;done)|(simp;omega)|fail) [run_drawnK,orSlow_none,hHu,hCk,hRo,hn,hm,h5,h5',hd]
 by_cases h6:behG t.groups 0≤40
 rotate_left
 ·have hIn:=fun lab s=>e_inChambers t ho lab s
  have hsc:=sum_cham ho
  have hb: ∀gs:List DGroup,(∀g∈gs,(0≤g.pos∧g.pos≤t.chambers-1)∧0≤g.fish∧g.fish≤99)→gs.length≤3→behG gs 0≤99*(gs.length:Int):=by
   intro gs
   induction gs with
   |nil=>intro _ _;simp[behG]
   |cons g gs ih=>
     intro h hl
     have h1:=ih (fun x hx=>h x (by simp[hx])) (by simp at hl;omega)
     have h2:=h g (by simp)
     rw[behG_cons,List.length_cons,if_pos (by simp;omega)]
     omega
  have hb2:=hb t.groups ho.groups ho.ol
  have hol:=ho.ol
  have hSu:=fun lab s=>e_Sum (chamL t) (by rw[chamL_len];omega) (fun x hx=>by
   obtain⟨i,hi,rfl⟩:=List.getElem_of_mem hx
   have:=cham_le ho i
   rw[getD_at _ _ hi]at this;omega) lab s
  rw[hsc]at hSu
  have h6':40<behG t.groups 0:=by omega
  obtain⟨n,hn⟩: ∃n,C.length=n:=⟨_,rfl⟩
  have hm:M.length=n:=by omega
  rw[hn]at h5
  have h5': ¬t.turns<(n:Int):=by omega
  rw[den_fn t3 _ _ _ rfl]
  simp only[b3]
  simp (maxSteps:=6000000) (disch:=first|omega|assumption|decide +kernel|(simp;done)|(simp;omega)|fail) [run_drawnK,orSlow_none,hHu,hCk,hRo,hn,hm,h5,h5',hIn,hSu,h6',hd]
 exact e_Driven_go t C M ⟨⟨ho,hrow,by omega,h6,fun i hi=>by omega⟩,fun i hi=>by omega,fun i hi=>by omega⟩ h4 h5 lab s
end Go.Proofs.YtnglkclmplfnpaaGreat

/-
  What the arguments of the laws of doors read as.
-/
namespace Go.Proofs.YtnglkclmplfnpaaGreat
open Go.Ab
set_option maxRecDepth 100000
theorem cells59:Tryz.prog.cellsOf 59=3:=by kernel_rfl
theorem cells41:Tryz.prog.cellsOf 41=2:=by kernel_rfl
theorem cells3:Tryz.prog.cellsOf 3=1:=by kernel_rfl
theorem cells31:Tryz.prog.cellsOf 31=1:=by kernel_rfl
variable {B : TypeId → Nat → Prop} {n : Nat} {vs : List V}
theorem fit_int(h:Fit Tryz.prog B (n+1) 3 vs): ∃x,vs=[i64 x]:=by
 simp only[Fit,Tryz.underlying3]at h
 exact h
theorem fit_bool(h:Fit Tryz.prog B (n+1) 4 vs): ∃x,vs=[.bool x]:=by
 simp only[Fit,Tryz.underlying4]at h
 exact h
theorem es_all {α:Type} {f:α→List V}(l:List (List V))(h: ∀x∈l,∃y,x=f y): ∃l':List α,l=es f l':=by
 obtain⟨l',h1,_⟩:=es_of (Q:=fun _=>True) l fun x hx=>by obtain⟨y,hy⟩:=h x hx;exact⟨y,hy,trivial⟩
 exact⟨l',h1⟩
theorem fit_ints(h:Fit Tryz.prog B (n+2) 31 vs): ∃l:List Int,vs=[.sl .no 1 (es cInt l)]∧B 3 l.length:=by
 rw[Fit,Tryz.underlying31]at h
 simp only at h
 obtain⟨l,rfl,hb,h⟩:=h
 obtain⟨l',rfl⟩:=es_all (f:=cInt) l fun x hx=>by obtain⟨y,hy⟩:=fit_int (h x hx);exact⟨y,hy⟩
 rw[cells3]
 exact⟨l',rfl,by simpa using hb⟩
theorem fit_gate(h:Fit Tryz.prog B (n+2) 59 vs): ∃g:DGate,vs=cGate g:=by
 rw[Fit,Tryz.underlying59]at h
 simp only[FitF]at h
 obtain⟨_,_,rfl,h0,_,_,rfl,h1,_,_,rfl,h2,rfl⟩:=h
 obtain⟨a,rfl⟩:=fit_int h0
 obtain⟨b,rfl⟩:=fit_int h1
 obtain⟨c,rfl⟩:=fit_bool h2
 exact⟨⟨a,b,c⟩,rfl⟩
theorem fit_group(h:Fit Tryz.prog B (n+2) 41 vs): ∃g:DGroup,vs=cGroup g:=by
 rw[Fit,Tryz.underlying41]at h
 simp only[FitF]at h
 obtain⟨_,_,rfl,h0,_,_,rfl,h1,rfl⟩:=h
 obtain⟨a,rfl⟩:=fit_int h0
 obtain⟨b,rfl⟩:=fit_int h1
 exact⟨⟨a,b⟩,rfl⟩
theorem fit_gates(h:Fit Tryz.prog B (n+3) 22 vs): ∃l:List DGate,vs=[.sl .no 3 (es cGate l)]∧B 59 l.length:=by
 rw[Fit,Tryz.underlying22]at h
 simp only at h
 obtain⟨l,rfl,hb,h⟩:=h
 obtain⟨l',rfl⟩:=es_all (f:=cGate) l fun x hx=>fit_gate (h x hx)
 rw[cells59]
 exact⟨l',rfl,by simpa using hb⟩
theorem fit_groups(h:Fit Tryz.prog B (n+3) 23 vs): ∃l:List DGroup,vs=[.sl .no 2 (es cGroup l)]∧B 41 l.length:=by
 rw[Fit,Tryz.underlying23]at h
 simp only at h
 obtain⟨l,rfl,hb,h⟩:=h
 obtain⟨l',rfl⟩:=es_all (f:=cGroup) l fun x hx=>fit_group (h x hx)
 rw[cells41]
 exact⟨l',rfl,by simpa using hb⟩
def Reach(e:TypeId)(k:Nat):Prop:=k≤maxLen∧k*Tryz.prog.bytesOf e≤reachBytes
theorem bytes3:Tryz.prog.bytesOf 3=8:=by kernel_rfl
theorem bytes59:Tryz.prog.bytesOf 59=24:=by kernel_rfl
theorem bytes41:Tryz.prog.bytesOf 41=16:=by kernel_rfl
theorem reach_ints {k:Nat}(h:Reach 3 k):k<4611686018427387904:=by
 simp only[Reach,bytes3,reachBytes]at h;omega
theorem fit_trap(h:Fit Tryz.prog Reach (n+4) 25 vs): ∃t:DTrap,vs=dV t∧ShortD t:=by
 rw[Fit,Tryz.underlying25]at h
 simp only[FitF]at h
 obtain⟨_,_,rfl,h0,_,_,rfl,h1,_,_,rfl,h2,_,_,rfl,h3,_,_,rfl,h4,rfl⟩:=h
 obtain⟨a,rfl⟩:=fit_int h0
 obtain⟨b,rfl⟩:=fit_int h1
 obtain⟨c,rfl⟩:=fit_int h2
 obtain⟨d,rfl,q1⟩:=fit_gates h3
 obtain⟨e,rfl,q2⟩:=fit_groups h4
 simp only[Reach,bytes59,bytes41,reachBytes]at q1 q2
 exact⟨⟨a,b,c,d,e⟩,rfl,by simp only;omega,by simp only;omega⟩
end Go.Proofs.YtnglkclmplfnpaaGreat

/-
  What lists of lists read as.
-/
namespace Go.Proofs.YtnglkclmplfnpaaGreat
open Go.Ab
set_option maxRecDepth 100000
theorem bytes31:Tryz.prog.bytesOf 31=24:=by kernel_rfl
theorem reach_lists {k:Nat}(h:Reach 31 k):k<4611686018427387904:=by
 simp only[Reach,bytes31,reachBytes]at h;omega
theorem fit_lists {n:Nat} {vs:List V}(h:Fit Tryz.prog Reach (n+3) 26 vs): ∃l:List (List Int),vs=[.sl .no 1 (es cInts l)]∧l.length<4611686018427387904∧ ∀x,x∈l→x.length<4611686018427387904:=by
 rw[Fit,Tryz.underlying26]at h
 simp only at h
 obtain⟨l,rfl,hb,h⟩:=h
 obtain⟨l',h1,h2⟩:=es_of (f:=cInts) (Q:=fun x=>Reach 3 x.length) l fun x hx=>by obtain⟨y,hy,hy2⟩:=fit_ints (h x hx);exact⟨y,hy,hy2⟩
 subst h1
 rw[cells31]
 exact⟨l',rfl,reach_lists (by simpa using hb),fun x hx=>reach_ints (h2 x hx)⟩
end Go.Proofs.YtnglkclmplfnpaaGreat

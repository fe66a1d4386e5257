/-
  Watch: the reference's settle, whole.
-/
import Derived.Test.YthghcainodgnkaaGreatEq2
set_option linter.unusedSimpArgs false
set_option linter.unusedVariables false
namespace Go.Proofs.YthghcainodgnkaaGreat
open Go.Ab
def passF(l:List Item):Nat→CMat→Bool×CMat
 |0,S=>(false,S)
 |n+1,S=>if (runI l ⟨S,false⟩).2=true then(if (runI l ⟨S,false⟩).1.ch=true then passF l n (runI l ⟨S,false⟩).1.S else(true,(runI l ⟨S,false⟩).1.S))else(false,(runI l ⟨S,false⟩).1.S)
theorem passF_succ(l:List Item)(n:Nat)(S:CMat):passF l (n+1) S=if (runI l ⟨S,false⟩).2=true then(if (runI l ⟨S,false⟩).1.ch=true then passF l n (runI l ⟨S,false⟩).1.S else(true,(runI l ⟨S,false⟩).1.S))else(false,(runI l ⟨S,false⟩).1.S):=rfl
theorem settleF_succ(T C:Nat)(l:List Item)(n:Nat)(S:CMat):settleF T C l (n+1) S=if (runI l ⟨S,false⟩).2=true then(if (runI l ⟨S,false⟩).1.ch=true then settleF T C l n (runI l ⟨S,false⟩).1.S else(okS T C (runI l ⟨S,false⟩).1.S,(runI l ⟨S,false⟩).1.S))else(false,(runI l ⟨S,false⟩).1.S):=rfl
theorem settleF_pass(T C:Nat)(l:List Item): ∀(n:Nat) (S:CMat),settleF T C l n S=if (passF l n S).1=true then(okS T C (passF l n S).2,(passF l n S).2)else(false,(passF l n S).2)
 |0,S=>by simp[settleF,passF]
 |n+1,S=>by
   have ih:=settleF_pass T C l n (runI l ⟨S,false⟩).1.S
   rw[settleF_succ,passF_succ]
   by_cases h1:(runI l ⟨S,false⟩).2=true
   ·rw[if_pos h1,if_pos h1]
    by_cases h2:(runI l ⟨S,false⟩).1.ch=true
    ·rw[if_pos h2,if_pos h2,ih]
    ·rw[if_neg h2,if_neg h2];simp
   ·rw[if_neg h1,if_neg h1];simp
section
variable (t : CTrap) (h : TrapOk t) (hop : ∀ l, l ∈ t.opn → l.length < 4611686018427387904) (d l b : Nat) (s : Stk) (hd : d < s.length) (hl : ∀ i, i < t.T → l ≠ b + 1000 * i) (hs : sget s d l = some (.arr 1 (ptrM d b (t.C + 1) t.T)))
include h hop hd hl hs
set_option maxHeartbeats 2000000 in
theorem e_stl_round(S:CMat)(hI:InvS t.T t.C 3000 S):
 gcN [1,2,5] [32] (Run T d74l0 [(1, .asl d l 1 t.T 0 t.T),(2, .ptr s.length 32 0),(5, .bool true)] ([(32, .cell (vT t))]::putM s d b S))=
  if (runI (items t) ⟨S,false⟩).2=true then some (.normal,[(1, .asl d l 1 t.T 0 t.T),(2, .ptr s.length 32 0),(5, .bool (runI (items t) ⟨S,false⟩).1.ch)],[(32, .cell (vT t))]::putM s d b (runI (items t) ⟨S,false⟩).1.S)
  else some (.ret,[(4, .bool false)],[(32, .cell (vT t))]::putM s d b (runI (items t) ⟨S,false⟩).1.S):=by
 have hcc:=h.cc
 have htt:=h.tt
 have e1:t.C=t.chambers.toNat:=rfl
 have e2:t.T=t.times.toNat:=rfl
 have hd2: ¬d=s.length:=by omega
 obtain⟨c,h1⟩:=e_stl_l1 t h hop d l b s hd hl hs ⟨S,false⟩ 3000 (by omega) hI
 have happ:=runI_append ((List.range t.T).flatMap (itemsI t)) (t.words.map itemW) ⟨S,false⟩
 rw[show(List.range t.T).flatMap (itemsI t) ++t.words.map itemW=items t from rfl]at happ
 have hin:=InvS.run ((List.range t.T).flatMap (itemsI t)) 3000 ⟨S,false⟩ (fun x hx=>(items_ok h).ok x (List.mem_append_left _ hx)) hI
 have hlen:(((List.range t.T).flatMap (itemsI t)).length:Int)≤69:=by
  have:=items_length (t:=t) (by omega) (by omega) h.words
  have e:(items t).length=((List.range t.T).flatMap (itemsI t)).length+(t.words.map itemW).length:=by rw[←List.length_append];rfl
  omega
 generalize runI ((List.range t.T).flatMap (itemsI t)) ⟨S,false⟩=y at*
 obtain⟨y1,y2⟩:=y
 dsimp only at*
 have h3:=e_stl_l3 t h d l b s hd hl hs (by have:=h.words;omega) y1 _ (by omega) hin
 rw[happ]
 clear happ hin hlen
 have hw:(runI (t.words.map itemW) y1).2=true:=by
  have: ∀(ws:List CWord) (a:PS),(runI (ws.map itemW) a).2=true:=fun ws=>by
   induction ws with
   |nil=>intro a;rfl
   |cons w ws ih=>intro a;rw[List.map_cons];exact ih _
  exact this _ _
 generalize runI (t.words.map itemW) y1=z at*
 obtain⟨z1,z2⟩:=z
 dsimp only at*
 subst hw
 clear hI hs hl
 generalize t.C=C at*
 generalize t.T=n at*
 cases y2
 ·rw[if_neg (by simp)]at h1
  simp (disch:=first|omega|assumption|decide +kernel|(simp;done)|(simp;omega)|fail) [hd2,h1]
 ·rw[if_pos rfl]at h1
  simp (disch:=first|omega|assumption|decide +kernel|(simp;done)|(simp;omega)|fail) [hd2,h1,h3]
set_option maxHeartbeats 2000000 in
theorem e_stl_l0: ∀(n:Nat) (S:CMat),InvS t.T t.C 3000 S→muS S+muK t.T t.C+1<n→0<n→ ∀e s',gcEnv [1,2,5] [32] e s'=[(1, .asl d l 1 t.T 0 t.T),(2, .ptr s.length 32 0),(5, .bool true)]→gcStk [32] s'=[(32, .cell (vT t))]::putM s d b S→
 Run T b74l0 e s'=if (passF (items t) n S).1=true then some (.exit 0,[(1, .asl d l 1 t.T 0 t.T),(2, .ptr s.length 32 0),(13, .bool false)],[(32, .cell (vT t))]::putM s d b (passF (items t) n S).2)
  else some (.ret,[(4, .bool false)],[(32, .cell (vT t))]::putM s d b (passF (items t) n S).2)
 |0,_,_,_,h0,_,_,_,_=>by omega
 |n+1,S,hI,hmu,_,e,s',he,hse=>by
   have hd2: ¬d=s.length:=by omega
   have hr:=e_stl_round t h hop d l b s hd hl hs S hI
   have hsp:=runI_spec (items t) ⟨S,false⟩ (items_ok h).ok hI.shape hI.near
   have hpass:=fun hf=>hI.pass h (ch:=false) hf
   have hlow:=fun hf=>near_mu (items_ok h).pos hI.shape hI.near fun i c hi hc=>hsp.chk hf i c ((items_ok h).all i c hi hc)
   have ih:=e_stl_l0 n (runI (items t) ⟨S,false⟩).1.S
   rw[show b74l0= .loop [1,2,5] [32] d74l0 from rfl]at ih⊢
   rw[run_head _ _ _ _ _ he hse]
   rw[passF_succ]
   have hm2:=hsp.mu2 rfl
   dsimp only at hm2
   clear hsp
   generalize runI (items t) ⟨S,false⟩=y at*
   obtain⟨⟨S',ch⟩,fin⟩:=y
   dsimp only at*
   generalize Run T d74l0 [(1, .asl d l 1 t.T 0 t.T),(2, .ptr s.length 32 0),(5, .bool true)] ([(32, .cell (vT t))]::putM s d b S)=r at hr⊢
   cases fin
   ·rw[if_neg (by simp)]at hr⊢
    simp only[Bool.false_eq_true,if_false]
    cases r with
    |none=>cases hr
    |some q=>
      obtain⟨ex,e1,s1⟩:=q
      cases ex with
      |normal=>simp at hr
      |exit id=>simp at hr
      |ret=>simp only[gcN_ret,Option.some.injEq]at hr;rw[hr];rfl
   ·rw[if_pos rfl]at hr⊢
    have hI':=hpass rfl
    have hlow:=hlow rfl
    cases r with
    |none=>cases hr
    |some q=>
      obtain⟨ex,e1,s1⟩:=q
      cases ex with
      |exit id=>simp at hr
      |ret=>simp at hr
      |normal=>
        simp only[gcN_normal,Option.some.injEq,Prod.mk.injEq,true_and]at hr
        rw[thenRun_normal]
        cases ch
        ·rw[run_head _ _ _ _ _ hr.1 hr.2]
         simp only[Bool.false_eq_true,if_false,if_true]
         generalize t.T=n at*
         simp (disch:=first|omega|assumption|decide +kernel|(simp;done)|(simp;omega)|fail) [hd2]
        ·have:=hm2 rfl
         rw[if_pos rfl]
         exact ih hI' (by omega) (by omega) e1 s1 hr.1 hr.2
end
set_option maxHeartbeats 2000000 in
theorem e_settle(t:CTrap)(h:TrapOk t)(hop: ∀l,l∈t.opn→l.length<4611686018427387904)(d l b:Nat)(s:Stk)(S:CMat)(hI:InvS t.T t.C 3000 S)(hd:d<s.length)(hl: ∀i,i<t.T→l≠b+1000*i)(hs:sget s d l=some (.arr 1 (ptrM d b (t.C+1) t.T)))(lab):
 den T 74 [.agg (vT t), .asl d l 1 t.T 0 t.T] lab (putM s d b S)=some (.bool (settleR t S).1,putM s d b (settleR t S).2):=by
 have hd2: ¬d=s.length:=by omega
 have hfu:muS S+muK t.T t.C+1<setFuel t S∧0<setFuel t S:=by unfold setFuel;omega
 have h0:=e_stl_l0 t h hop d l b s hd hl hs (setFuel t S) S hI hfu.1 hfu.2 [(1, .asl d l 1 t.T 0 t.T),(2, .ptr s.length 32 0),(5, .bool true)] ([(32, .cell (vT t))]::putM s d b S) (by simp[hd2]) (by simp[hd2])
 have hsp:=settleR_spec h hI.shape hI.near
 unfold settleR at hsp⊢
 rw[settleF_pass]at hsp⊢
 have h4:=fun hS=>e_stl_l4 t h d l b s (passF (items t) (setFuel t S) S).2 hS hd hl hs
 generalize passF (items t) (setFuel t S) S=r at*
 obtain⟨ok,S'⟩:=r
 dsimp only at*
 have hsh:Shape t.T t.C S':=by have:=hsp.shape;split at this<;>exact this
 have h4:=h4 hsh
 clear hsp hI hfu hs hl hsh
 rw[den_fn t74 _ _ _ rfl]
 simp only[b74]
 cases ok
 ·rw[if_neg (by simp)]at h0⊢
  generalize t.T=n at*
  simp (disch:=first|omega|assumption|decide +kernel|(simp;done)|(simp;omega)|fail) [hd2,h0]
 ·rw[if_pos rfl]at h0⊢
  generalize okS t.T t.C S'=o at*
  generalize t.T=n at*
  cases o
  ·rw[if_neg (by simp)]at h4
   simp (disch:=first|omega|assumption|decide +kernel|(simp;done)|(simp;omega)|fail) [hd2,h0,h4]
  ·rw[if_pos rfl]at h4
   simp (disch:=first|omega|assumption|decide +kernel|(simp;done)|(simp;omega)|fail) [hd2,h0,h4]
end Go.Proofs.YthghcainodgnkaaGreat

/-
  Watch: the reference's free.
-/
namespace Go.Proofs.YthghcainodgnkaaGreat
open Go.Ab
def rowsM:Nat→CMat→Ab.Loc
 |_,[]=>[]
 |l,r::R=>(l, .arr 2 (es cCSp r))::rowsM (l+1000) R
def matM(d l z:Nat)(S:CMat):Ab.Loc:=(l, .arr 1 (ptrM d (l+1000) z S.length))::rowsM (l+1000) S
def rowC(C c:Nat):List CSp:=List.replicate c ⟨0,40⟩ ++List.replicate (C+1-c) ⟨0,0⟩
theorem rowC_len(C c:Nat)(h:c≤C):(rowC C c).length=C+1:=by simp[rowC];omega
theorem rowC_cons(C c:Nat)(h:c<C):List.replicate (C+1-c) (⟨0,0⟩:CSp)=⟨0,0⟩::List.replicate (C+1-(c+1)) ⟨0,0⟩:=by
 rw[show C+1-c=(C+1-(c+1))+1 by omega,List.replicate_succ]
theorem rowC_set(C c:Nat)(h:c<C):(es cCSp (rowC C c)).set c [i64 0,i64 40]=es cCSp (rowC C (c+1)):=by
 have e:(es cCSp (rowC C c)).set c [i64 0,i64 40]=es cCSp ((rowC C c).set c ⟨0,40⟩):=by simp[es,List.map_set]
 rw[e]
 congr 1
 unfold rowC
 rw[rowC_cons C c h,List.set_append_right _ _ (by simp),List.length_replicate,Nat.sub_self,List.set_cons_zero,List.replicate_succ' (n:=c),List.append_assoc]
 rfl
theorem rowC_get(C c:Nat)(h:c<C):(es cCSp (rowC C c))[c]? =some [i64 0,i64 0]:=by
 simp only[es,rowC,List.getElem?_map]
 rw[List.getElem?_append_right (by simp),rowC_cons C c h]
 simp
theorem rowC_0(C:Nat):List.replicate (C+1) [i64 0,i64 0]=es cCSp (rowC C 0):=by simp[rowC,es]
set_option maxHeartbeats 1000000 in
theorem e_free_l1_0(t:CTrap)(hc:1≤t.chambers∧t.chambers≤4)(s:Stk):
 Run T b75l1 [(1, .ptr s.length 16 0),(3, .asl s.length 49 1 0 0 0),(4,i64 0),(5, .asl s.length 256 2 (t.C+1) 0 (t.C+1)),(6,i64 0)] ([(16, .cell (vT t)),(49, .arr 1 (ptrM s.length 256 (t.C+1) 0)),(256, .arr 2 (es cCSp (rowC t.C 0)))]::s)=
  some (.exit 2,[(1, .ptr s.length 16 0),(3, .asl s.length 49 1 0 0 0),(4,i64 0),(5, .asl s.length 256 2 (t.C+1) 0 (t.C+1)),(6,i64 t.C),(20, .bool false)],[(16, .cell (vT t)),(49, .arr 1 (ptrM s.length 256 (t.C+1) 0)),(256, .arr 2 (es cCSp (rowC t.C t.C)))]::s):=by
 have e1:t.C=t.chambers.toNat:=rfl
 have key:=loop_fold (T:=T) (live:=[1,3,4,5,6]) (keep:=[16,49,256,1256,2256,3256,4256,5256,6256,7256,8256]) (b:=d75l1) (List.range t.C) (fun _ _=>True) (fun(a:Unit) _=>a) (fun k _=>[(1, .ptr s.length 16 0),(3, .asl s.length 49 1 0 0 0),(4,i64 0),(5, .asl s.length 256 2 (t.C+1) 0 (t.C+1)),(6,i64 (k:Nat))]) (fun k _=>[(16, .cell (vT t)),(49, .arr 1 (ptrM s.length 256 (t.C+1) 0)),(256, .arr 2 (es cCSp (rowC t.C k)))]::s)
  (fun _=>(.exit 2,[(1, .ptr s.length 16 0),(3, .asl s.length 49 1 0 0 0),(4,i64 0),(5, .asl s.length 256 2 (t.C+1) 0 (t.C+1)),(6,i64 t.C),(20, .bool false)],[(16, .cell (vT t)),(49, .arr 1 (ptrM s.length 256 (t.C+1) 0)),(256, .arr 2 (es cCSp (rowC t.C t.C)))]::s)) (by simp) ?_ ?_ ?_ () trivial [(1, .ptr s.length 16 0),(3, .asl s.length 49 1 0 0 0),(4,i64 0),(5, .asl s.length 256 2 (t.C+1) 0 (t.C+1)),(6,i64 0)] ([(16, .cell (vT t)),(49, .arr 1 (ptrM s.length 256 (t.C+1) 0)),(256, .arr 2 (es cCSp (rowC t.C 0)))]::s) (by simp[ptrM,List.range_succ]) (by simp[ptrM,List.range_succ])
 ·exact key
 ·intro k a hk _
  simp only[List.length_range]at hk
  have hk2:(k:Int)<t.chambers:=by omega
  have hk3:(k:Int)<(t.C:Int)+1:=by omega
  have hk4:k<t.C+1:=by omega
  have hk9:k<1000:=by omega
  have r1:=rowC_len t.C k (by omega)
  have r2:=rowC_set t.C k hk
  have r3:=rowC_get t.C k hk
  obtain⟨_,r4⟩:=List.getElem?_eq_some_iff.1 r3
  generalize rowC t.C (k+1)=R2 at*
  have r5:(es cCSp (rowC t.C k)).length=t.C+1:=by simp[r1]
  generalize es cCSp (rowC t.C k)=R1 at*
  clear r1 r3
  clear e1
  generalize rowC t.C t.C=RR at*
  generalize t.C=C at*
  simp (disch:=first|omega|assumption|decide +kernel|(simp;done)|(simp;omega)|fail) [hk2,hk3,hk4,r2,r4,r5,ptrM,List.range_succ,wk k (by omega)]
 ·intro k a hk _
  trivial
 ·intro a _
  have hz:((t.C:Nat):Int)=t.chambers:=by omega
  simp only[List.length_range,hz]
  simp
set_option maxHeartbeats 1000000 in
theorem e_free_l1_1(t:CTrap)(hc:1≤t.chambers∧t.chambers≤4)(s:Stk):
 Run T b75l1 [(1, .ptr s.length 16 0),(3, .asl s.length 49 1 1 0 1),(4,i64 1),(5, .asl s.length 1256 2 (t.C+1) 0 (t.C+1)),(6,i64 0)] ([(16, .cell (vT t)),(49, .arr 1 (ptrM s.length 256 (t.C+1) 1)),(256, .arr 2 (es cCSp (rowC t.C t.C))),(1256, .arr 2 (es cCSp (rowC t.C 0)))]::s)=
  some (.exit 2,[(1, .ptr s.length 16 0),(3, .asl s.length 49 1 1 0 1),(4,i64 1),(5, .asl s.length 1256 2 (t.C+1) 0 (t.C+1)),(6,i64 t.C),(20, .bool false)],[(16, .cell (vT t)),(49, .arr 1 (ptrM s.length 256 (t.C+1) 1)),(256, .arr 2 (es cCSp (rowC t.C t.C))),(1256, .arr 2 (es cCSp (rowC t.C t.C)))]::s):=by
 have e1:t.C=t.chambers.toNat:=rfl
 have key:=loop_fold (T:=T) (live:=[1,3,4,5,6]) (keep:=[16,49,256,1256,2256,3256,4256,5256,6256,7256,8256]) (b:=d75l1) (List.range t.C) (fun _ _=>True) (fun(a:Unit) _=>a) (fun k _=>[(1, .ptr s.length 16 0),(3, .asl s.length 49 1 1 0 1),(4,i64 1),(5, .asl s.length 1256 2 (t.C+1) 0 (t.C+1)),(6,i64 (k:Nat))]) (fun k _=>[(16, .cell (vT t)),(49, .arr 1 (ptrM s.length 256 (t.C+1) 1)),(256, .arr 2 (es cCSp (rowC t.C t.C))),(1256, .arr 2 (es cCSp (rowC t.C k)))]::s)
  (fun _=>(.exit 2,[(1, .ptr s.length 16 0),(3, .asl s.length 49 1 1 0 1),(4,i64 1),(5, .asl s.length 1256 2 (t.C+1) 0 (t.C+1)),(6,i64 t.C),(20, .bool false)],[(16, .cell (vT t)),(49, .arr 1 (ptrM s.length 256 (t.C+1) 1)),(256, .arr 2 (es cCSp (rowC t.C t.C))),(1256, .arr 2 (es cCSp (rowC t.C t.C)))]::s)) (by simp) ?_ ?_ ?_ () trivial [(1, .ptr s.length 16 0),(3, .asl s.length 49 1 1 0 1),(4,i64 1),(5, .asl s.length 1256 2 (t.C+1) 0 (t.C+1)),(6,i64 0)] ([(16, .cell (vT t)),(49, .arr 1 (ptrM s.length 256 (t.C+1) 1)),(256, .arr 2 (es cCSp (rowC t.C t.C))),(1256, .arr 2 (es cCSp (rowC t.C 0)))]::s) (by simp[ptrM,List.range_succ]) (by simp[ptrM,List.range_succ])
 ·exact key
 ·intro k a hk _
  simp only[List.length_range]at hk
  have hk2:(k:Int)<t.chambers:=by omega
  have hk3:(k:Int)<(t.C:Int)+1:=by omega
  have hk4:k<t.C+1:=by omega
  have hk9:k<1000:=by omega
  have r1:=rowC_len t.C k (by omega)
  have r2:=rowC_set t.C k hk
  have r3:=rowC_get t.C k hk
  obtain⟨_,r4⟩:=List.getElem?_eq_some_iff.1 r3
  generalize rowC t.C (k+1)=R2 at*
  have r5:(es cCSp (rowC t.C k)).length=t.C+1:=by simp[r1]
  generalize es cCSp (rowC t.C k)=R1 at*
  clear r1 r3
  clear e1
  generalize rowC t.C t.C=RR at*
  generalize t.C=C at*
  simp (disch:=first|omega|assumption|decide +kernel|(simp;done)|(simp;omega)|fail) [hk2,hk3,hk4,r2,r4,r5,ptrM,List.range_succ,wk k (by omega)]
 ·intro k a hk _
  trivial
 ·intro a _
  have hz:((t.C:Nat):Int)=t.chambers:=by omega
  simp only[List.length_range,hz]
  simp
set_option maxHeartbeats 1000000 in
theorem e_free_l1_2(t:CTrap)(hc:1≤t.chambers∧t.chambers≤4)(s:Stk):
 Run T b75l1 [(1, .ptr s.length 16 0),(3, .asl s.length 49 1 2 0 2),(4,i64 2),(5, .asl s.length 2256 2 (t.C+1) 0 (t.C+1)),(6,i64 0)] ([(16, .cell (vT t)),(49, .arr 1 (ptrM s.length 256 (t.C+1) 2)),(256, .arr 2 (es cCSp (rowC t.C t.C))),(1256, .arr 2 (es cCSp (rowC t.C t.C))),(2256, .arr 2 (es cCSp (rowC t.C 0)))]::s)=
  some (.exit 2,[(1, .ptr s.length 16 0),(3, .asl s.length 49 1 2 0 2),(4,i64 2),(5, .asl s.length 2256 2 (t.C+1) 0 (t.C+1)),(6,i64 t.C),(20, .bool false)],[(16, .cell (vT t)),(49, .arr 1 (ptrM s.length 256 (t.C+1) 2)),(256, .arr 2 (es cCSp (rowC t.C t.C))),(1256, .arr 2 (es cCSp (rowC t.C t.C))),(2256, .arr 2 (es cCSp (rowC t.C t.C)))]::s):=by
 have e1:t.C=t.chambers.toNat:=rfl
 have key:=loop_fold (T:=T) (live:=[1,3,4,5,6]) (keep:=[16,49,256,1256,2256,3256,4256,5256,6256,7256,8256]) (b:=d75l1) (List.range t.C) (fun _ _=>True) (fun(a:Unit) _=>a) (fun k _=>[(1, .ptr s.length 16 0),(3, .asl s.length 49 1 2 0 2),(4,i64 2),(5, .asl s.length 2256 2 (t.C+1) 0 (t.C+1)),(6,i64 (k:Nat))]) (fun k _=>[(16, .cell (vT t)),(49, .arr 1 (ptrM s.length 256 (t.C+1) 2)),(256, .arr 2 (es cCSp (rowC t.C t.C))),(1256, .arr 2 (es cCSp (rowC t.C t.C))),(2256, .arr 2 (es cCSp (rowC t.C k)))]::s)
  (fun _=>(.exit 2,[(1, .ptr s.length 16 0),(3, .asl s.length 49 1 2 0 2),(4,i64 2),(5, .asl s.length 2256 2 (t.C+1) 0 (t.C+1)),(6,i64 t.C),(20, .bool false)],[(16, .cell (vT t)),(49, .arr 1 (ptrM s.length 256 (t.C+1) 2)),(256, .arr 2 (es cCSp (rowC t.C t.C))),(1256, .arr 2 (es cCSp (rowC t.C t.C))),(2256, .arr 2 (es cCSp (rowC t.C t.C)))]::s)) (by simp) ?_ ?_ ?_ () trivial [(1, .ptr s.length 16 0),(3, .asl s.length 49 1 2 0 2),(4,i64 2),(5, .asl s.length 2256 2 (t.C+1) 0 (t.C+1)),(6,i64 0)] ([(16, .cell (vT t)),(49, .arr 1 (ptrM s.length 256 (t.C+1) 2)),(256, .arr 2 (es cCSp (rowC t.C t.C))),(1256, .arr 2 (es cCSp (rowC t.C t.C))),(2256, .arr 2 (es cCSp (rowC t.C 0)))]::s) (by simp[ptrM,List.range_succ]) (by simp[ptrM,List.range_succ])
 ·exact key
 ·intro k a hk _
  simp only[List.length_range]at hk
  have hk2:(k:Int)<t.chambers:=by omega
  have hk3:(k:Int)<(t.C:Int)+1:=by omega
  have hk4:k<t.C+1:=by omega
  have hk9:k<1000:=by omega
  have r1:=rowC_len t.C k (by omega)
  have r2:=rowC_set t.C k hk
  have r3:=rowC_get t.C k hk
  obtain⟨_,r4⟩:=List.getElem?_eq_some_iff.1 r3
  generalize rowC t.C (k+1)=R2 at*
  have r5:(es cCSp (rowC t.C k)).length=t.C+1:=by simp[r1]
  generalize es cCSp (rowC t.C k)=R1 at*
  clear r1 r3
  clear e1
  generalize rowC t.C t.C=RR at*
  generalize t.C=C at*
  simp (disch:=first|omega|assumption|decide +kernel|(simp;done)|(simp;omega)|fail) [hk2,hk3,hk4,r2,r4,r5,ptrM,List.range_succ,wk k (by omega)]
 ·intro k a hk _
  trivial
 ·intro a _
  have hz:((t.C:Nat):Int)=t.chambers:=by omega
  simp only[List.length_range,hz]
  simp
set_option maxHeartbeats 1000000 in
theorem e_free_l1_3(t:CTrap)(hc:1≤t.chambers∧t.chambers≤4)(s:Stk):
 Run T b75l1 [(1, .ptr s.length 16 0),(3, .asl s.length 49 1 3 0 3),(4,i64 3),(5, .asl s.length 3256 2 (t.C+1) 0 (t.C+1)),(6,i64 0)] ([(16, .cell (vT t)),(49, .arr 1 (ptrM s.length 256 (t.C+1) 3)),(256, .arr 2 (es cCSp (rowC t.C t.C))),(1256, .arr 2 (es cCSp (rowC t.C t.C))),(2256, .arr 2 (es cCSp (rowC t.C t.C))),(3256, .arr 2 (es cCSp (rowC t.C 0)))]::s)=
  some (.exit 2,[(1, .ptr s.length 16 0),(3, .asl s.length 49 1 3 0 3),(4,i64 3),(5, .asl s.length 3256 2 (t.C+1) 0 (t.C+1)),(6,i64 t.C),(20, .bool false)],[(16, .cell (vT t)),(49, .arr 1 (ptrM s.length 256 (t.C+1) 3)),(256, .arr 2 (es cCSp (rowC t.C t.C))),(1256, .arr 2 (es cCSp (rowC t.C t.C))),(2256, .arr 2 (es cCSp (rowC t.C t.C))),(3256, .arr 2 (es cCSp (rowC t.C t.C)))]::s):=by
 have e1:t.C=t.chambers.toNat:=rfl
 have key:=loop_fold (T:=T) (live:=[1,3,4,5,6]) (keep:=[16,49,256,1256,2256,3256,4256,5256,6256,7256,8256]) (b:=d75l1) (List.range t.C) (fun _ _=>True) (fun(a:Unit) _=>a) (fun k _=>[(1, .ptr s.length 16 0),(3, .asl s.length 49 1 3 0 3),(4,i64 3),(5, .asl s.length 3256 2 (t.C+1) 0 (t.C+1)),(6,i64 (k:Nat))]) (fun k _=>[(16, .cell (vT t)),(49, .arr 1 (ptrM s.length 256 (t.C+1) 3)),(256, .arr 2 (es cCSp (rowC t.C t.C))),(1256, .arr 2 (es cCSp (rowC t.C t.C))),(2256, .arr 2 (es cCSp (rowC t.C t.C))),(3256, .arr 2 (es cCSp (rowC t.C k)))]::s)
  (fun _=>(.exit 2,[(1, .ptr s.length 16 0),(3, .asl s.length 49 1 3 0 3),(4,i64 3),(5, .asl s.length 3256 2 (t.C+1) 0 (t.C+1)),(6,i64 t.C),(20, .bool false)],[(16, .cell (vT t)),(49, .arr 1 (ptrM s.length 256 (t.C+1) 3)),(256, .arr 2 (es cCSp (rowC t.C t.C))),(1256, .arr 2 (es cCSp (rowC t.C t.C))),(2256, .arr 2 (es cCSp (rowC t.C t.C))),(3256, .arr 2 (es cCSp (rowC t.C t.C)))]::s)) (by simp) ?_ ?_ ?_ () trivial [(1, .ptr s.length 16 0),(3, .asl s.length 49 1 3 0 3),(4,i64 3),(5, .asl s.length 3256 2 (t.C+1) 0 (t.C+1)),(6,i64 0)] ([(16, .cell (vT t)),(49, .arr 1 (ptrM s.length 256 (t.C+1) 3)),(256, .arr 2 (es cCSp (rowC t.C t.C))),(1256, .arr 2 (es cCSp (rowC t.C t.C))),(2256, .arr 2 (es cCSp (rowC t.C t.C))),(3256, .arr 2 (es cCSp (rowC t.C 0)))]::s) (by simp[ptrM,List.range_succ]) (by simp[ptrM,List.range_succ])
 ·exact key
 ·intro k a hk _
  simp only[List.length_range]at hk
  have hk2:(k:Int)<t.chambers:=by omega
  have hk3:(k:Int)<(t.C:Int)+1:=by omega
  have hk4:k<t.C+1:=by omega
  have hk9:k<1000:=by omega
  have r1:=rowC_len t.C k (by omega)
  have r2:=rowC_set t.C k hk
  have r3:=rowC_get t.C k hk
  obtain⟨_,r4⟩:=List.getElem?_eq_some_iff.1 r3
  generalize rowC t.C (k+1)=R2 at*
  have r5:(es cCSp (rowC t.C k)).length=t.C+1:=by simp[r1]
  generalize es cCSp (rowC t.C k)=R1 at*
  clear r1 r3
  clear e1
  generalize rowC t.C t.C=RR at*
  generalize t.C=C at*
  simp (disch:=first|omega|assumption|decide +kernel|(simp;done)|(simp;omega)|fail) [hk2,hk3,hk4,r2,r4,r5,ptrM,List.range_succ,wk k (by omega)]
 ·intro k a hk _
  trivial
 ·intro a _
  have hz:((t.C:Nat):Int)=t.chambers:=by omega
  simp only[List.length_range,hz]
  simp
set_option maxHeartbeats 1000000 in
theorem e_free_l1_4(t:CTrap)(hc:1≤t.chambers∧t.chambers≤4)(s:Stk):
 Run T b75l1 [(1, .ptr s.length 16 0),(3, .asl s.length 49 1 4 0 4),(4,i64 4),(5, .asl s.length 4256 2 (t.C+1) 0 (t.C+1)),(6,i64 0)] ([(16, .cell (vT t)),(49, .arr 1 (ptrM s.length 256 (t.C+1) 4)),(256, .arr 2 (es cCSp (rowC t.C t.C))),(1256, .arr 2 (es cCSp (rowC t.C t.C))),(2256, .arr 2 (es cCSp (rowC t.C t.C))),(3256, .arr 2 (es cCSp (rowC t.C t.C))),(4256, .arr 2 (es cCSp (rowC t.C 0)))]::s)=
  some (.exit 2,[(1, .ptr s.length 16 0),(3, .asl s.length 49 1 4 0 4),(4,i64 4),(5, .asl s.length 4256 2 (t.C+1) 0 (t.C+1)),(6,i64 t.C),(20, .bool false)],[(16, .cell (vT t)),(49, .arr 1 (ptrM s.length 256 (t.C+1) 4)),(256, .arr 2 (es cCSp (rowC t.C t.C))),(1256, .arr 2 (es cCSp (rowC t.C t.C))),(2256, .arr 2 (es cCSp (rowC t.C t.C))),(3256, .arr 2 (es cCSp (rowC t.C t.C))),(4256, .arr 2 (es cCSp (rowC t.C t.C)))]::s):=by
 have e1:t.C=t.chambers.toNat:=rfl
 have key:=loop_fold (T:=T) (live:=[1,3,4,5,6]) (keep:=[16,49,256,1256,2256,3256,4256,5256,6256,7256,8256]) (b:=d75l1) (List.range t.C) (fun _ _=>True) (fun(a:Unit) _=>a) (fun k _=>[(1, .ptr s.length 16 0),(3, .asl s.length 49 1 4 0 4),(4,i64 4),(5, .asl s.length 4256 2 (t.C+1) 0 (t.C+1)),(6,i64 (k:Nat))]) (fun k _=>[(16, .cell (vT t)),(49, .arr 1 (ptrM s.length 256 (t.C+1) 4)),(256, .arr 2 (es cCSp (rowC t.C t.C))),(1256, .arr 2 (es cCSp (rowC t.C t.C))),(2256, .arr 2 (es cCSp (rowC t.C t.C))),(3256, .arr 2 (es cCSp (rowC t.C t.C))),(4256, .arr 2 (es cCSp (rowC t.C k)))]::s)
  (fun _=>(.exit 2,[(1, .ptr s.length 16 0),(3, .asl s.length 49 1 4 0 4),(4,i64 4),(5, .asl s.length 4256 2 (t.C+1) 0 (t.C+1)),(6,i64 t.C),(20, .bool false)],[(16, .cell (vT t)),(49, .arr 1 (ptrM s.length 256 (t.C+1) 4)),(256, .arr 2 (es cCSp (rowC t.C t.C))),(1256, .arr 2 (es cCSp (rowC t.C t.C))),(2256, .arr 2 (es cCSp (rowC t.C t.C))),(3256, .arr 2 (es cCSp (rowC t.C t.C))),(4256, .arr 2 (es cCSp (rowC t.C t.C)))]::s)) (by simp) ?_ ?_ ?_ () trivial [(1, .ptr s.length 16 0),(3, .asl s.length 49 1 4 0 4),(4,i64 4),(5, .asl s.length 4256 2 (t.C+1) 0 (t.C+1)),(6,i64 0)] ([(16, .cell (vT t)),(49, .arr 1 (ptrM s.length 256 (t.C+1) 4)),(256, .arr 2 (es cCSp (rowC t.C t.C))),(1256, .arr 2 (es cCSp (rowC t.C t.C))),(2256, .arr 2 (es cCSp (rowC t.C t.C))),(3256, .arr 2 (es cCSp (rowC t.C t.C))),(4256, .arr 2 (es cCSp (rowC t.C 0)))]::s) (by simp[ptrM,List.range_succ]) (by simp[ptrM,List.range_succ])
 ·exact key
 ·intro k a hk _
  simp only[List.length_range]at hk
  have hk2:(k:Int)<t.chambers:=by omega
  have hk3:(k:Int)<(t.C:Int)+1:=by omega
  have hk4:k<t.C+1:=by omega
  have hk9:k<1000:=by omega
  have r1:=rowC_len t.C k (by omega)
  have r2:=rowC_set t.C k hk
  have r3:=rowC_get t.C k hk
  obtain⟨_,r4⟩:=List.getElem?_eq_some_iff.1 r3
  generalize rowC t.C (k+1)=R2 at*
  have r5:(es cCSp (rowC t.C k)).length=t.C+1:=by simp[r1]
  generalize es cCSp (rowC t.C k)=R1 at*
  clear r1 r3
  clear e1
  generalize rowC t.C t.C=RR at*
  generalize t.C=C at*
  simp (disch:=first|omega|assumption|decide +kernel|(simp;done)|(simp;omega)|fail) [hk2,hk3,hk4,r2,r4,r5,ptrM,List.range_succ,wk k (by omega)]
 ·intro k a hk _
  trivial
 ·intro a _
  have hz:((t.C:Nat):Int)=t.chambers:=by omega
  simp only[List.length_range,hz]
  simp
end Go.Proofs.YthghcainodgnkaaGreat

/-
  Watch: the reference's free, whole (not built yet).
-/
namespace Go.Proofs.YthghcainodgnkaaGreat
open Go.Ab
theorem appK_rows(F:Ab.Loc)(s:Stk)(k:Nat)(E G:List (List V))(lab:Nat)(h1:Loc.get F 49=some (.arr 1 E))(h2:E.length=k)(h3:Loc.get F 464=some (.arr 1 G))(h4:G.length=1)(h5:G.all V.oneAll=true)(hb:k≤1000):
 appK 1 24 lab (F::s) (.asl s.length 49 1 k 0 k) (.asl s.length 464 1 1 0 1)=some (.asl s.length 49 1 (k+1) 0 (k+1),Loc.put F 49 (.arr 1 (E ++G))::s):=by
 subst h2
 have h6:G.take 1=G:=List.take_of_length_le (by omega)
 have h7: ∀x∈G,V.oneAll x=true:=by simpa using h5
 unfold appK
 have b1:(E.length+1)*24≤140737488355328:=by omega
 have b2:E.length+1<140737488355328:=by omega
 simp[h1,h3,h4,h6,effK,b1,b2]
 rw[if_pos h7]
 simp[seff]
set_option maxHeartbeats 1000000 in
theorem e_free_r_0(t:CTrap)(hc:1≤t.chambers∧t.chambers≤4)(hk:0<t.times)(s:Stk):
 gcN [1,3,4] [16,49,256,1256,2256,3256,4256,5256,6256,7256,8256] (Run T d75l0 [(1, .ptr s.length 16 0),(3, .asl s.length 49 1 0 0 0),(4,i64 0)] ([(16, .cell (vT t)),(49, .arr 1 (ptrM s.length 256 (t.C+1) 0))]::s))=
  some (.normal,[(1, .ptr s.length 16 0),(3, .asl s.length 49 1 1 0 1),(4,i64 1)],[(16, .cell (vT t)),(49, .arr 1 (ptrM s.length 256 (t.C+1) 1)),(256, .arr 2 (es cCSp (rowC t.C t.C)))]::s):=by
 have h:=e_free_l1_0 t hc s
 have e1:t.C=t.chambers.toNat:=rfl
 have w1:IntKind.i64.wrap (t.chambers+1)=t.chambers+1:=wi _ (by omega) (by omega)
 have hn:(t.chambers+1).toNat=t.C+1:=by omega
 have hrep:=rowC_0 t.C
 have q1:0≤t.chambers+1:=by omega
 have q2:(t.chambers+1)*16≤140737488355328:=by omega
 have q3:t.chambers+1<140737488355328:=by omega
 have q4: ¬140737488355328<(t.chambers+1)*16:=by omega
 have q5: ¬140737488355328≤t.chambers+1:=by omega
 have happ:=appK_rows ([(16, .cell (vT t)),(49, .arr 1 (ptrM s.length 256 (t.C+1) 0)),(256, .arr 2 (es cCSp (rowC t.C t.C))),(464, .arr 1 [[.asl s.length 256 2 (t.C+1) 0 (t.C+1)]])]) s 0 (ptrM s.length 256 (t.C+1) 0) [[.asl s.length 256 2 (t.C+1) 0 (t.C+1)]] 480 (by rfl) (by simp) (by rfl) (by rfl) (by rfl) (by omega)
 simp[ptrM,List.range_succ]at h happ⊢
 clear e1
 generalize rowC t.C t.C=R at*
 generalize hR0:rowC t.C 0=R0 at*
 generalize t.C=C at*
 simp (disch:=first|omega|assumption|decide +kernel|(simp;done)|(simp;omega)|fail) [hk,h,w1,hn,hrep,q1,q2,q3,q4,q5,happ,show IntKind.i64.wrap 1=1 from wi _ (by decide) (by decide)]
set_option maxHeartbeats 1000000 in
theorem e_free_r_1(t:CTrap)(hc:1≤t.chambers∧t.chambers≤4)(hk:1<t.times)(s:Stk):
 gcN [1,3,4] [16,49,256,1256,2256,3256,4256,5256,6256,7256,8256] (Run T d75l0 [(1, .ptr s.length 16 0),(3, .asl s.length 49 1 1 0 1),(4,i64 1)] ([(16, .cell (vT t)),(49, .arr 1 (ptrM s.length 256 (t.C+1) 1)),(256, .arr 2 (es cCSp (rowC t.C t.C)))]::s))=
  some (.normal,[(1, .ptr s.length 16 0),(3, .asl s.length 49 1 2 0 2),(4,i64 2)],[(16, .cell (vT t)),(49, .arr 1 (ptrM s.length 256 (t.C+1) 2)),(256, .arr 2 (es cCSp (rowC t.C t.C))),(1256, .arr 2 (es cCSp (rowC t.C t.C)))]::s):=by
 have h:=e_free_l1_1 t hc s
 have e1:t.C=t.chambers.toNat:=rfl
 have w1:IntKind.i64.wrap (t.chambers+1)=t.chambers+1:=wi _ (by omega) (by omega)
 have hn:(t.chambers+1).toNat=t.C+1:=by omega
 have hrep:=rowC_0 t.C
 have q1:0≤t.chambers+1:=by omega
 have q2:(t.chambers+1)*16≤140737488355328:=by omega
 have q3:t.chambers+1<140737488355328:=by omega
 have q4: ¬140737488355328<(t.chambers+1)*16:=by omega
 have q5: ¬140737488355328≤t.chambers+1:=by omega
 have happ:=appK_rows ([(16, .cell (vT t)),(49, .arr 1 (ptrM s.length 256 (t.C+1) 1)),(256, .arr 2 (es cCSp (rowC t.C t.C))),(1256, .arr 2 (es cCSp (rowC t.C t.C))),(464, .arr 1 [[.asl s.length 1256 2 (t.C+1) 0 (t.C+1)]])]) s 1 (ptrM s.length 256 (t.C+1) 1) [[.asl s.length 1256 2 (t.C+1) 0 (t.C+1)]] 480 (by rfl) (by simp) (by rfl) (by rfl) (by rfl) (by omega)
 simp[ptrM,List.range_succ]at h happ⊢
 clear e1
 generalize rowC t.C t.C=R at*
 generalize hR0:rowC t.C 0=R0 at*
 generalize t.C=C at*
 simp (disch:=first|omega|assumption|decide +kernel|(simp;done)|(simp;omega)|fail) [hk,h,w1,hn,hrep,q1,q2,q3,q4,q5,happ,show IntKind.i64.wrap 2=2 from wi _ (by decide) (by decide)]
set_option maxHeartbeats 1000000 in
theorem e_free_r_2(t:CTrap)(hc:1≤t.chambers∧t.chambers≤4)(hk:2<t.times)(s:Stk):
 gcN [1,3,4] [16,49,256,1256,2256,3256,4256,5256,6256,7256,8256] (Run T d75l0 [(1, .ptr s.length 16 0),(3, .asl s.length 49 1 2 0 2),(4,i64 2)] ([(16, .cell (vT t)),(49, .arr 1 (ptrM s.length 256 (t.C+1) 2)),(256, .arr 2 (es cCSp (rowC t.C t.C))),(1256, .arr 2 (es cCSp (rowC t.C t.C)))]::s))=
  some (.normal,[(1, .ptr s.length 16 0),(3, .asl s.length 49 1 3 0 3),(4,i64 3)],[(16, .cell (vT t)),(49, .arr 1 (ptrM s.length 256 (t.C+1) 3)),(256, .arr 2 (es cCSp (rowC t.C t.C))),(1256, .arr 2 (es cCSp (rowC t.C t.C))),(2256, .arr 2 (es cCSp (rowC t.C t.C)))]::s):=by
 have h:=e_free_l1_2 t hc s
 have e1:t.C=t.chambers.toNat:=rfl
 have w1:IntKind.i64.wrap (t.chambers+1)=t.chambers+1:=wi _ (by omega) (by omega)
 have hn:(t.chambers+1).toNat=t.C+1:=by omega
 have hrep:=rowC_0 t.C
 have q1:0≤t.chambers+1:=by omega
 have q2:(t.chambers+1)*16≤140737488355328:=by omega
 have q3:t.chambers+1<140737488355328:=by omega
 have q4: ¬140737488355328<(t.chambers+1)*16:=by omega
 have q5: ¬140737488355328≤t.chambers+1:=by omega
 have happ:=appK_rows ([(16, .cell (vT t)),(49, .arr 1 (ptrM s.length 256 (t.C+1) 2)),(256, .arr 2 (es cCSp (rowC t.C t.C))),(1256, .arr 2 (es cCSp (rowC t.C t.C))),(2256, .arr 2 (es cCSp (rowC t.C t.C))),(464, .arr 1 [[.asl s.length 2256 2 (t.C+1) 0 (t.C+1)]])]) s 2 (ptrM s.length 256 (t.C+1) 2) [[.asl s.length 2256 2 (t.C+1) 0 (t.C+1)]] 480 (by rfl) (by simp) (by rfl) (by rfl) (by rfl) (by omega)
 simp[ptrM,List.range_succ]at h happ⊢
 clear e1
 generalize rowC t.C t.C=R at*
 generalize hR0:rowC t.C 0=R0 at*
 generalize t.C=C at*
 simp (disch:=first|omega|assumption|decide +kernel|(simp;done)|(simp;omega)|fail) [hk,h,w1,hn,hrep,q1,q2,q3,q4,q5,happ,show IntKind.i64.wrap 3=3 from wi _ (by decide) (by decide)]
set_option maxHeartbeats 1000000 in
theorem e_free_r_3(t:CTrap)(hc:1≤t.chambers∧t.chambers≤4)(hk:3<t.times)(s:Stk):
 gcN [1,3,4] [16,49,256,1256,2256,3256,4256,5256,6256,7256,8256] (Run T d75l0 [(1, .ptr s.length 16 0),(3, .asl s.length 49 1 3 0 3),(4,i64 3)] ([(16, .cell (vT t)),(49, .arr 1 (ptrM s.length 256 (t.C+1) 3)),(256, .arr 2 (es cCSp (rowC t.C t.C))),(1256, .arr 2 (es cCSp (rowC t.C t.C))),(2256, .arr 2 (es cCSp (rowC t.C t.C)))]::s))=
  some (.normal,[(1, .ptr s.length 16 0),(3, .asl s.length 49 1 4 0 4),(4,i64 4)],[(16, .cell (vT t)),(49, .arr 1 (ptrM s.length 256 (t.C+1) 4)),(256, .arr 2 (es cCSp (rowC t.C t.C))),(1256, .arr 2 (es cCSp (rowC t.C t.C))),(2256, .arr 2 (es cCSp (rowC t.C t.C))),(3256, .arr 2 (es cCSp (rowC t.C t.C)))]::s):=by
 have h:=e_free_l1_3 t hc s
 have e1:t.C=t.chambers.toNat:=rfl
 have w1:IntKind.i64.wrap (t.chambers+1)=t.chambers+1:=wi _ (by omega) (by omega)
 have hn:(t.chambers+1).toNat=t.C+1:=by omega
 have hrep:=rowC_0 t.C
 have q1:0≤t.chambers+1:=by omega
 have q2:(t.chambers+1)*16≤140737488355328:=by omega
 have q3:t.chambers+1<140737488355328:=by omega
 have q4: ¬140737488355328<(t.chambers+1)*16:=by omega
 have q5: ¬140737488355328≤t.chambers+1:=by omega
 have happ:=appK_rows ([(16, .cell (vT t)),(49, .arr 1 (ptrM s.length 256 (t.C+1) 3)),(256, .arr 2 (es cCSp (rowC t.C t.C))),(1256, .arr 2 (es cCSp (rowC t.C t.C))),(2256, .arr 2 (es cCSp (rowC t.C t.C))),(3256, .arr 2 (es cCSp (rowC t.C t.C))),(464, .arr 1 [[.asl s.length 3256 2 (t.C+1) 0 (t.C+1)]])]) s 3 (ptrM s.length 256 (t.C+1) 3) [[.asl s.length 3256 2 (t.C+1) 0 (t.C+1)]] 480 (by rfl) (by simp) (by rfl) (by rfl) (by rfl) (by omega)
 simp[ptrM,List.range_succ]at h happ⊢
 clear e1
 generalize rowC t.C t.C=R at*
 generalize hR0:rowC t.C 0=R0 at*
 generalize t.C=C at*
 simp (disch:=first|omega|assumption|decide +kernel|(simp;done)|(simp;omega)|fail) [hk,h,w1,hn,hrep,q1,q2,q3,q4,q5,happ,show IntKind.i64.wrap 4=4 from wi _ (by decide) (by decide)]
set_option maxHeartbeats 1000000 in
theorem e_free_r_4(t:CTrap)(hc:1≤t.chambers∧t.chambers≤4)(hk:4<t.times)(s:Stk):
 gcN [1,3,4] [16,49,256,1256,2256,3256,4256,5256,6256,7256,8256] (Run T d75l0 [(1, .ptr s.length 16 0),(3, .asl s.length 49 1 4 0 4),(4,i64 4)] ([(16, .cell (vT t)),(49, .arr 1 (ptrM s.length 256 (t.C+1) 4)),(256, .arr 2 (es cCSp (rowC t.C t.C))),(1256, .arr 2 (es cCSp (rowC t.C t.C))),(2256, .arr 2 (es cCSp (rowC t.C t.C))),(3256, .arr 2 (es cCSp (rowC t.C t.C)))]::s))=
  some (.normal,[(1, .ptr s.length 16 0),(3, .asl s.length 49 1 5 0 5),(4,i64 5)],[(16, .cell (vT t)),(49, .arr 1 (ptrM s.length 256 (t.C+1) 5)),(256, .arr 2 (es cCSp (rowC t.C t.C))),(1256, .arr 2 (es cCSp (rowC t.C t.C))),(2256, .arr 2 (es cCSp (rowC t.C t.C))),(3256, .arr 2 (es cCSp (rowC t.C t.C))),(4256, .arr 2 (es cCSp (rowC t.C t.C)))]::s):=by
 have h:=e_free_l1_4 t hc s
 have e1:t.C=t.chambers.toNat:=rfl
 have w1:IntKind.i64.wrap (t.chambers+1)=t.chambers+1:=wi _ (by omega) (by omega)
 have hn:(t.chambers+1).toNat=t.C+1:=by omega
 have hrep:=rowC_0 t.C
 have q1:0≤t.chambers+1:=by omega
 have q2:(t.chambers+1)*16≤140737488355328:=by omega
 have q3:t.chambers+1<140737488355328:=by omega
 have q4: ¬140737488355328<(t.chambers+1)*16:=by omega
 have q5: ¬140737488355328≤t.chambers+1:=by omega
 have happ:=appK_rows ([(16, .cell (vT t)),(49, .arr 1 (ptrM s.length 256 (t.C+1) 4)),(256, .arr 2 (es cCSp (rowC t.C t.C))),(1256, .arr 2 (es cCSp (rowC t.C t.C))),(2256, .arr 2 (es cCSp (rowC t.C t.C))),(3256, .arr 2 (es cCSp (rowC t.C t.C))),(4256, .arr 2 (es cCSp (rowC t.C t.C))),(464, .arr 1 [[.asl s.length 4256 2 (t.C+1) 0 (t.C+1)]])]) s 4 (ptrM s.length 256 (t.C+1) 4) [[.asl s.length 4256 2 (t.C+1) 0 (t.C+1)]] 480 (by rfl) (by simp) (by rfl) (by rfl) (by rfl) (by omega)
 simp[ptrM,List.range_succ]at h happ⊢
 clear e1
 generalize rowC t.C t.C=R at*
 generalize hR0:rowC t.C 0=R0 at*
 generalize t.C=C at*
 simp (disch:=first|omega|assumption|decide +kernel|(simp;done)|(simp;omega)|fail) [hk,h,w1,hn,hrep,q1,q2,q3,q4,q5,happ,show IntKind.i64.wrap 5=5 from wi _ (by decide) (by decide)]
def freeF(t:CTrap)(d k:Nat):Ab.Loc:=(16, .cell (vT t))::(49, .arr 1 (ptrM d 256 (t.C+1) k))::rowsM 256 (List.replicate k (rowC t.C t.C))
set_option maxHeartbeats 1000000 in
theorem e_free_l0(t:CTrap)(hc:1≤t.chambers∧t.chambers≤4)(ht:1≤t.times∧t.times≤5)(s:Stk):
 Run T b75l0 [(3, .asl s.length 49 1 0 0 0),(1, .ptr s.length 16 0),(3, .sl .full 1 []),(4,i64 0)] ([(16, .cell (vT t)),(49, .arr 1 [])]::s)=
  some (.exit 0,[(1, .ptr s.length 16 0),(3, .asl s.length 49 1 t.T 0 t.T),(4,i64 t.T),(10, .bool false)],freeF t s.length t.T::s):=by
 have e2:t.T=t.times.toNat:=rfl
 have key:=loop_fold (T:=T) (live:=[1,3,4]) (keep:=[16,49,256,1256,2256,3256,4256,5256,6256,7256,8256]) (b:=d75l0) (List.range t.T) (fun _ _=>True) (fun(a:Unit) _=>a) (fun k _=>[(1, .ptr s.length 16 0),(3, .asl s.length 49 1 k 0 k),(4,i64 (k:Nat))]) (fun k _=>freeF t s.length k::s)
  (fun _=>(.exit 0,[(1, .ptr s.length 16 0),(3, .asl s.length 49 1 t.T 0 t.T),(4,i64 t.T),(10, .bool false)],freeF t s.length t.T::s)) (by simp) ?_ ?_ ?_ () trivial [(3, .asl s.length 49 1 0 0 0),(1, .ptr s.length 16 0),(3, .sl .full 1 []),(4,i64 0)] ([(16, .cell (vT t)),(49, .arr 1 [])]::s) (by simp) (by simp[freeF,ptrM,rowsM])
 ·exact key
 ·intro k a hk _
  simp only[List.length_range]at hk
  have hk5:k=0∨k=1∨k=2∨k=3∨k=4:=by omega
  rcases hk5 with rfl|rfl|rfl|rfl|rfl
  ·exact e_free_r_0 t hc (by omega) s
  ·exact e_free_r_1 t hc (by omega) s
  ·exact e_free_r_2 t hc (by omega) s
  ·exact e_free_r_3 t hc (by omega) s
  ·exact e_free_r_4 t hc (by omega) s
 ·intro k a hk _
  trivial
 ·intro a _
  have hz:((t.T:Nat):Int)=t.times:=by omega
  simp only[List.length_range,hz,freeF]
  generalize t.T=n at*
  simp
theorem get_app(F G:Ab.Loc)(k:Nat)(h:Loc.get F k=none):Loc.get (F ++G) k=Loc.get G k:=by
 induction F with
 |nil=>rfl
 |cons x F ih=>
   obtain⟨m,x⟩:=x
   simp only[Loc.get]at h
   by_cases e:k=m
   ·simp[e]at h
   ·rw[if_neg e]at h
    rw[List.cons_append,Loc.get,if_neg e,ih h]
theorem put_new(F:Ab.Loc)(k:Nat)(x:Entry)(h:Loc.get F k=none):Loc.put F k x=F ++[(k,x)]:=by
 induction F with
 |nil=>rfl
 |cons y F ih=>
   obtain⟨m,y⟩:=y
   simp only[Loc.get]at h
   by_cases e:k=m
   ·simp[e]at h
   ·rw[if_neg e]at h
    rw[Loc.put,if_neg e,ih h];rfl
theorem put_app(F G:Ab.Loc)(k:Nat)(x:Entry)(h:Loc.get F k=none):Loc.put (F ++G) k x=F ++Loc.put G k x:=by
 induction F with
 |nil=>rfl
 |cons y F ih=>
   obtain⟨m,y⟩:=y
   simp only[Loc.get]at h
   by_cases e:k=m
   ·simp[e]at h
   ·rw[if_neg e]at h
    rw[List.cons_append,Loc.put,if_neg e,ih h];rfl
def FreeAt(F:Ab.Loc)(lab:Nat):Prop:= ∀i,i≤5→Loc.get F (lab+1000*i)=none
theorem FreeAt.all {F lab}(h:FreeAt F lab):Loc.get F lab=none∧Loc.get F (lab+1000)=none∧Loc.get F (lab+2000)=none∧Loc.get F (lab+3000)=none∧Loc.get F (lab+4000)=none∧Loc.get F (lab+5000)=none:=
 ⟨h 0 (by omega),h 1 (by omega),h 2 (by omega),h 3 (by omega),h 4 (by omega),h 5 (by omega)⟩
set_option maxRecDepth 20000 in
set_option maxHeartbeats 2000000 in
theorem adopt_free(t:CTrap)(n:Nat)(hn:n≤5)(F:Ab.Loc)(s:Stk)(lab:Nat)(hF:FreeAt F lab):
 adopt true (freeF t (s.length+1) n) (.asl (s.length+1) 49 1 n 0 n) lab (F::s)=some (.asl s.length lab 1 n 0 n,(F ++matM s.length lab (t.C+1) (List.replicate n (rowC t.C t.C)))::s):=by
 obtain⟨h0,h1,h2,h3,h4,h5⟩:=hF.all
 have key: ∀x:Entry,Loc.put F lab x=F ++[(lab,x)]:=fun x=>put_new F lab x h0
 generalize hR:rowC t.C t.C=R
 have hn6:n=0∨n=1∨n=2∨n=3∨n=4∨n=5:=by omega
 rcases hn6 with rfl|rfl|rfl|rfl|rfl|rfl
 ·simp[freeF,hR,ptrM,rowsM,matM,dedup,newLab,idxOf,key,h0]
 ·simp[freeF,hR,ptrM,List.range_succ,List.replicate,rowsM,matM,dedup,newLab,idxOf,Entry.map,Entry.goes,renR,key,get_app,put_app,Loc.get,Loc.put,h0,h1]
 ·simp[freeF,hR,ptrM,List.range_succ,List.replicate,rowsM,matM,dedup,newLab,idxOf,Entry.map,Entry.goes,renR,key,get_app,put_app,Loc.get,Loc.put,h0,h1,h2,Nat.add_assoc]
 ·simp[freeF,hR,ptrM,List.range_succ,List.replicate,rowsM,matM,dedup,newLab,idxOf,Entry.map,Entry.goes,renR,key,get_app,put_app,Loc.get,Loc.put,h0,h1,h2,h3,Nat.add_assoc]
 ·simp[freeF,hR,ptrM,List.range_succ,List.replicate,rowsM,matM,dedup,newLab,idxOf,Entry.map,Entry.goes,renR,key,get_app,put_app,Loc.get,Loc.put,h0,h1,h2,h3,h4,Nat.add_assoc]
 ·simp[freeF,hR,ptrM,List.range_succ,List.replicate,rowsM,matM,dedup,newLab,idxOf,Entry.map,Entry.goes,renR,key,get_app,put_app,Loc.get,Loc.put,h0,h1,h2,h3,h4,h5,Nat.add_assoc]
theorem e_free(t:CTrap)(hc:1≤t.chambers∧t.chambers≤4)(ht:1≤t.times∧t.times≤5)(F:Ab.Loc)(s:Stk)(lab:Nat)(hF:FreeAt F lab):den T 75 [.agg (vT t)] lab (F::s)=some (.asl s.length lab 1 t.T 0 t.T,(F ++matM s.length lab (t.C+1) (freeL t))::s):=by
 have h:=e_free_l0 t hc ht (F::s)
 simp only[List.length_cons]at h
 have e2:t.T=t.times.toNat:=rfl
 have ha:=adopt_free t t.T (by omega) F s lab hF
 rw[show List.replicate t.T (rowC t.C t.C)=freeL t by simp[freeL,rowC]]at ha
 generalize freeL t=S at*
 generalize freeF t (s.length+1) t.T=FF at*
 generalize t.T=n at*
 rw[den_fn t75 _ _ _ rfl]
 simp only[b75]
 simp[h,ha,-adopt_eq]
end Go.Proofs.YthghcainodgnkaaGreat

/-
  Watch: the reference's IsOne (not built yet).
-/
namespace Go.Proofs.YthghcainodgnkaaGreat
open Go.Ab
def putL(F:Ab.Loc):Nat→CMat→Ab.Loc
 |_,[]=>F
 |b,r::R=>Loc.put (putL F (b+1000) R) b (.arr 2 (es cCSp r))
theorem putM_top(F:Ab.Loc)(s:Stk): ∀(R:CMat) (b:Nat),putM (F::s) s.length b R=putL F b R::s
 |[],_=>rfl
 |r::R,b=>by rw[putM,putM_top F s R,putL];simp[sput]
theorem get_app_none(F G:Ab.Loc)(k:Nat)(h1:Loc.get F k=none)(h2:Loc.get G k=none):Loc.get (F ++G) k=none:=by rw[get_app F G k h1,h2]
theorem putL_rows: ∀(S R:CMat) (b:Nat) (A:Ab.Loc),R.length=S.length→(∀i,i<S.length→Loc.get A (b+1000*i)=none)→putL (A ++rowsM b S) b R=A ++rowsM b R
 |[],[],_,_,_,_=>rfl
 |r0::S,r::R,b,A,hl,hA=>by
   have h0:=hA 0 (by simp)
   have ih:=putL_rows S R (b+1000) (A ++[(b, .arr 2 (es cCSp r0))]) (by simpa using hl) fun i hi=>get_app_none _ _ _ (by have:=hA (i+1) (by simpa using hi);rw[←this];congr 1;omega) (by rw[Loc.get,if_neg (by omega)];rfl)
   rw[List.append_assoc]at ih
   rw[putL,rowsM]
   rw[show [(b,Entry.arr 2 (es cCSp r0))] ++rowsM (b+1000) S=(b, .arr 2 (es cCSp r0))::rowsM (b+1000) S from rfl]at ih
   rw[ih,List.append_assoc,put_app _ _ _ _ (by simpa using h0)]
   simp[Loc.put,rowsM]
 |[],_::_,_,_,hl,_=>by simp at hl
 |_::_,[],_,_,hl,_=>by simp at hl
theorem putM_mat(G:Ab.Loc)(s:Stk)(l z:Nat)(S R:CMat)(hR:R.length=S.length)(hG: ∀i,i<S.length→Loc.get G (l+1000+1000*i)=none):putM ((G ++matM s.length l z S)::s) s.length (l+1000) R=(G ++matM s.length l z R)::s:=by
 have h:=putL_rows S R (l+1000) (G ++[(l, .arr 1 (ptrM s.length (l+1000) z S.length))]) hR fun i hi=>get_app_none _ _ _ (hG i hi) (by rw[Loc.get,if_neg (by omega)];rfl)
 rw[putM_top]
 simp only[List.append_assoc,List.singleton_append]at h
 unfold matM
 rw[h,hR]
theorem e_settle_mat(t:CTrap)(h:TrapOk t)(hop: ∀l,l∈t.opn→l.length<4611686018427387904)(G:Ab.Loc)(s:Stk)(l:Nat)(S:CMat)(hI:InvS t.T t.C 3000 S)(hG:FreeAt G l)(lab):
 den T 74 [.agg (vT t), .asl s.length l 1 t.T 0 t.T] lab ((G ++matM s.length l (t.C+1) S)::s)=some (.bool (settleR t S).1,(G ++matM s.length l (t.C+1) (settleR t S).2)::s):=by
 have htt:=h.tt
 have e2:t.T=t.times.toNat:=rfl
 have hG2: ∀i,i<S.length→Loc.get G (l+1000+1000*i)=none:=fun i hi=>by
  rw[hI.shape.len]at hi
  have:=hG (i+1) (by omega)
  rw[←this];congr 1;omega
 have hs:sget ((G ++matM s.length l (t.C+1) S)::s) s.length l=some (.arr 1 (ptrM s.length (l+1000) (t.C+1) t.T)):=by
  rw[sget_cons,if_pos rfl,get_app _ _ _ (by simpa using hG 0 (by omega)),matM,Loc.get,if_pos rfl,hI.shape.len]
 have key:=e_settle t h hop s.length l (l+1000) ((G ++matM s.length l (t.C+1) S)::s) S hI (by simp) (fun i hi=>by omega) hs lab
 have hsp:=settleR_spec h hI.shape hI.near
 rw[putM_mat G s l (t.C+1) S S rfl hG2,putM_mat G s l (t.C+1) S _ (by rw[hsp.shape.len,hI.shape.len]) hG2]at key
 exact key
theorem len_1 {α:Type}: ∀ {S:List α},S.length=1→ ∃a,S=[a]
 |[a],_=>⟨a,rfl⟩
theorem len_2 {α:Type}: ∀ {S:List α},S.length=2→ ∃a b,S=[a,b]
 |[a,b],_=>⟨a,b,rfl⟩
theorem len_3 {α:Type}: ∀ {S:List α},S.length=3→ ∃a b c,S=[a,b,c]
 |[a,b,c],_=>⟨a,b,c,rfl⟩
theorem len_4 {α:Type}: ∀ {S:List α},S.length=4→ ∃a b c d,S=[a,b,c,d]
 |[a,b,c,d],_=>⟨a,b,c,d,rfl⟩
theorem len_5 {α:Type}: ∀ {S:List α},S.length=5→ ∃a b c d e,S=[a,b,c,d,e]
 |[a,b,c,d,e],_=>⟨a,b,c,d,e,rfl⟩
set_option maxHeartbeats 2000000 in
theorem e_IsOne(t:CTrap)(h:TrapOk t)(hop: ∀l,l∈t.opn→l.length<4611686018427387904)(lab s):den T 18 [.agg (vT t)] lab s=some (.bool (isOneB t),s):=by
 have htt:=h.tt
 have e2:t.T=t.times.toNat:=rfl
 have hf:=e_free t h.cc h.tt [(16, .cell (vT t))] s 80 (fun i hi=>by simp[Loc.get];omega)
 have hs:=fun lab=>e_settle_mat t h hop [(16, .cell (vT t))] s 80 (freeL t) (InvS.free t) (fun i hi=>by simp[Loc.get];omega) lab
 have hl:=(settleR_spec h (free_shape t) (free_near t)).shape.len
 rw[show(settleR t (freeL t)).1=isOneB t from rfl]at hs
 have hn:t.T=1∨t.T=2∨t.T=3∨t.T=4∨t.T=5:=by omega
 generalize isOneB t=r at*
 generalize (settleR t (freeL t)).2=S2 at*
 rw[show freeL t=List.replicate t.T (rowC t.C t.C)by simp[freeL,rowC]]at hf hs
 clear e2
 generalize rowC t.C t.C=R at*
 generalize t.T=n at*
 generalize t.C=C at*
 rw[den_fn t18 _ _ _ rfl]
 simp only[b18]
 rcases hn with rfl|rfl|rfl|rfl|rfl
 ·obtain⟨a,rfl⟩:=len_1 hl
  simp[matM,rowsM,ptrM,List.range_succ,List.replicate]at hf hs
  simp (maxSteps:=1000000) (disch:=first|omega|assumption|decide +kernel|(simp;done)|(simp;omega)|fail) [run_drawnK,orSlow_none,hf,hs]
 ·obtain⟨a,b,rfl⟩:=len_2 hl
  simp[matM,rowsM,ptrM,List.range_succ,List.replicate]at hf hs
  simp (maxSteps:=1000000) (disch:=first|omega|assumption|decide +kernel|(simp;done)|(simp;omega)|fail) [run_drawnK,orSlow_none,hf,hs]
 ·obtain⟨a,b,c,rfl⟩:=len_3 hl
  simp[matM,rowsM,ptrM,List.range_succ,List.replicate]at hf hs
  simp (maxSteps:=1000000) (disch:=first|omega|assumption|decide +kernel|(simp;done)|(simp;omega)|fail) [run_drawnK,orSlow_none,hf,hs]
 ·obtain⟨a,b,c,d,rfl⟩:=len_4 hl
  simp[matM,rowsM,ptrM,List.range_succ,List.replicate]at hf hs
  simp (maxSteps:=1000000) (disch:=first|omega|assumption|decide +kernel|(simp;done)|(simp;omega)|fail) [run_drawnK,orSlow_none,hf,hs]
 ·obtain⟨a,b,c,d,e,rfl⟩:=len_5 hl
  simp[matM,rowsM,ptrM,List.range_succ,List.replicate]at hf hs
  simp (maxSteps:=1000000) (disch:=first|omega|assumption|decide +kernel|(simp;done)|(simp;omega)|fail) [run_drawnK,orSlow_none,hf,hs]
end Go.Proofs.YthghcainodgnkaaGreat

/-
  Watch: the reference's Check, ask, known.
-/
namespace Go.Proofs.YthghcainodgnkaaGreat
open Go.Ab
theorem e_chk01_l0(t:CTrap)(hm:Mid t)(hs:ShortT t)(s:Stk):
 Run T b95l0 [(1, .ptr s.length 16 0),(3,i64 0)] ([(16, .cell (vT t))]::s)=
  if allB (fun l=>rising l 0 (t.chambers-1)) t.opn=true then some (.exit 0,[(1, .ptr s.length 16 0),(3,i64 t.opn.length),(34, .bool false)],[(16, .cell (vT t))]::s)
  else some (.ret,[(2,i64 10)],[(16, .cell (vT t))]::s):=by
 obtain⟨⟨m1,m2⟩,_⟩:=hm
 have w1:IntKind.i64.wrap (t.chambers-1)=t.chambers-1:=wi _ (by omega) (by omega)
 refine loop_all t.opn (fun l=>rising l 0 (t.chambers-1)) (fun k=>[(1, .ptr s.length 16 0),(3,i64 k)]) (fun _=>[(16, .cell (vT t))]::s) _ _ (by simp) (by simp) ?_ (by simp) _ _ (by simp) (by simp)
 intro k hk
 have hlo:=hs.opn
 have hk2:(k:Int)<t.opn.length:=by omega
 have hl:=hs.each _ (List.getElem_mem hk)
 cases hr:rising t.opn[k] 0 (t.chambers-1)
 ·simp (maxSteps:=1000000) (disch:=first|omega|assumption|decide +kernel|(simp;done)|(simp;omega)|fail) [run_drawnK,hk,hk2,hl,hr,w1,wk k (by omega)]
 ·simp (maxSteps:=1000000) (disch:=first|omega|assumption|decide +kernel|(simp;done)|(simp;omega)|fail) [run_drawnK,hk,hk2,hl,hr,w1,wk k (by omega)]
theorem e_chk01_l1(t:CTrap)(hm:Mid t)(hs:ShortT t)(s:Stk):
 Run T b95l1 [(1, .ptr s.length 16 0),(4,i64 0)] ([(16, .cell (vT t))]::s)=
  if allB (fun w=>wordOk t w) t.words=true then some (.exit 2,[(1, .ptr s.length 16 0),(4,i64 t.words.length),(51, .bool false)],[(16, .cell (vT t))]::s)
  else some (.ret,[(2,i64 10)],[(16, .cell (vT t))]::s):=by
 refine loop_all t.words (fun w=>wordOk t w) (fun k=>[(1, .ptr s.length 16 0),(4,i64 k)]) (fun _=>[(16, .cell (vT t))]::s) _ _ (by simp) (by simp) ?_ (by simp) _ _ (by simp) (by simp)
 intro k hk
 have hlo:=hs.words
 have hk2:(k:Int)<t.words.length:=by omega
 have hw:=fun lab s=>e_isWord01 t hm t.words[k] lab s
 cases hr:wordOk t t.words[k]
 ·simp (maxSteps:=1000000) (disch:=first|omega|assumption|decide +kernel|(simp;done)|(simp;omega)|fail) [run_drawnK,hk,hk2,hw,hr,wk k (by omega)]
 ·simp (maxSteps:=1000000) (disch:=first|omega|assumption|decide +kernel|(simp;done)|(simp;omega)|fail) [run_drawnK,hk,hk2,hw,hr,wk k (by omega)]
set_option maxHeartbeats 1000000 in
theorem e_Check01(t:CTrap)(hs:ShortT t)(lab s):den T 95 [.agg (vT t)] lab s=some (i64 (if trapB t=true then 0 else 10),s):=by
 have ho:=hs.opn
 have hw:=hs.words
 rw[den_fn t95 _ _ _ rfl]
 simp only[b95]
 unfold trapB
 cases c1:wiB t.chambers 1 4
 ·simp (maxSteps:=1000000) (disch:=first|omega|assumption|decide +kernel|(simp;done)|(simp;omega)|fail) [c1]
 cases c2:wiB t.times 1 5
 ·simp (maxSteps:=1000000) (disch:=first|omega|assumption|decide +kernel|(simp;done)|(simp;omega)|fail) [c1,c2]
 have hm:Mid t:=TrapOk.mid (wiB_iff.1 c1) (wiB_iff.1 c2)
 have w1:IntKind.i64.wrap (t.times-1)=t.times-1:=by have:=(wiB_iff.1 c2);exact wi _ (by omega) (by omega)
 by_cases c3:(t.opn.length:Int)=t.times-1
 rotate_left
 ·simp (maxSteps:=1000000) (disch:=first|omega|assumption|decide +kernel|(simp;done)|(simp;omega)|fail) [c1,c2,c3,w1]
 by_cases c4:t.words.length≤8
 rotate_left
 ·have c4':(8:Int)<t.words.length:=by omega
  simp (maxSteps:=1000000) (disch:=first|omega|assumption|decide +kernel|(simp;done)|(simp;omega)|fail) [c1,c2,c3,c4,c4',w1]
 have c4': ¬(8:Int)<t.words.length:=by omega
 have h0:=e_chk01_l0 t hm hs s
 have h1:=e_chk01_l1 t hm hs s
 cases c5:allB (fun l=>rising l 0 (t.chambers-1)) t.opn
 ·rw[c5]at h0
  simp only[Bool.false_eq_true,if_false]at h0
  simp (maxSteps:=1000000) (disch:=first|omega|assumption|decide +kernel|(simp;done)|(simp;omega)|fail) [c1,c2,c3,c4,c4',c5,w1,h0]
 ·rw[c5]at h0
  simp only[if_true]at h0
  cases c6:allB (fun w=>wordOk t w) t.words
  ·rw[c6]at h1
   simp only[Bool.false_eq_true,if_false]at h1
   simp (maxSteps:=1000000) (disch:=first|omega|assumption|decide +kernel|(simp;done)|(simp;omega)|fail) [c1,c2,c3,c4,c4',c5,c6,w1,h0,h1]
  ·rw[c6]at h1
   simp only[if_true]at h1
   simp (maxSteps:=1000000) (disch:=first|omega|assumption|decide +kernel|(simp;done)|(simp;omega)|fail) [c1,c2,c3,c4,c4',c5,c6,w1,h0,h1]
theorem e_ask01(t:CTrap)(hs:ShortT t)(is:Bool)(lab s):den T 153 [.agg (vT t), .bool is] lab s=some (i64 (askT t is),s):=by
 have hc:=fun lab s=>e_Check01 t hs lab s
 unfold askT
 rw[den_fn t153 _ _ _ rfl]
 simp only[b153]
 cases h:trapB t<;>cases is<;>simp (maxSteps:=1000000) (disch:=first|omega|assumption|decide +kernel|(simp;done)|(simp;omega)|fail) [hc,h]
theorem e_known01(t:CTrap)(hs:ShortT t)(is:Bool)(lab s):den T 129 [.agg (vT t), .bool is] lab s=some (i64 (openT t is),s):=by
 have ha:=fun lab s=>e_ask01 t hs is lab s
 rw[den_fn t129 _ _ _ rfl]
 simp only[b129]
 by_cases h1:askT t is=0
 ·obtain⟨k1,k2⟩:=ask_trap h1
  have ho:=fun lab s=>e_IsOne t (trapB_ok k1) (trapB_open k1) lab s
  rw[openT_of k1,if_pos k2]
  cases hi:isOneB t<;>simp (maxSteps:=1000000) (disch:=first|omega|assumption|decide +kernel|(simp;done)|(simp;omega)|fail) [ha,h1,ho,hi]
 ·unfold openT
  simp (maxSteps:=1000000) (disch:=first|omega|assumption|decide +kernel|(simp;done)|(simp;omega)|fail) [ha,h1]
end Go.Proofs.YthghcainodgnkaaGreat

/-
  Watch: what a matrix in a frame answers.
-/
namespace Go.Proofs.YthghcainodgnkaaGreat
open Go.Ab
theorem get_rowsM: ∀(S:CMat) (l:Nat) (F:Ab.Loc) (i:Nat),i<S.length→Loc.get (rowsM l S ++F) (l+1000*i)=some (.arr 2 (rowV S i))
 |r::S,l,F,0,_=>by rw[rowsM,List.cons_append,Loc.get,if_pos (by omega)];rfl
 |r::S,l,F,i+1,h=>by
   have e:l+1000*(i+1)=l+1000+1000*i:=by omega
   rw[rowsM,List.cons_append,Loc.get,if_neg (by omega),e,get_rowsM S (l+1000) F i (by simpa using h)];rfl
theorem get_rowsM_no: ∀(S:CMat) (l:Nat) (F:Ab.Loc) (k:Nat),(∀i,i<S.length→k≠l+1000*i)→Loc.get (rowsM l S ++F) k=Loc.get F k
 |[],_,_,_,_=>rfl
 |r::S,l,F,k,h=>by
   rw[rowsM,List.cons_append,Loc.get,if_neg (by have:=h 0 (by simp);omega),get_rowsM_no S (l+1000) F k fun i hi=>by have:=h (i+1) (by simpa using hi);omega]
theorem put_rowsM: ∀(S:CMat) (l:Nat) (F:Ab.Loc) (i:Nat) (r:List CSp),i<S.length→Loc.put (rowsM l S ++F) (l+1000*i) (.arr 2 (es cCSp r))=rowsM l (S.set i r) ++F
 |r0::S,l,F,0,r,_=>by rw[rowsM,List.cons_append,Loc.put,if_pos (by omega)];rfl
 |r0::S,l,F,i+1,r,h=>by
   have e:l+1000*(i+1)=l+1000+1000*i:=by omega
   rw[rowsM,List.cons_append,Loc.put,if_neg (by omega),e,put_rowsM S (l+1000) F i r (by simpa using h)];rfl
theorem put_rowsM_no: ∀(S:CMat) (l:Nat) (F:Ab.Loc) (k:Nat) (x:Entry),(∀i,i<S.length→k≠l+1000*i)→Loc.put (rowsM l S ++F) k x=rowsM l S ++Loc.put F k x
 |[],_,_,_,_,_=>rfl
 |r::S,l,F,k,x,h=>by
   rw[rowsM,List.cons_append,Loc.put,if_neg (by have:=h 0 (by simp);omega),put_rowsM_no S (l+1000) F k x fun i hi=>by have:=h (i+1) (by simpa using hi);omega];rfl
theorem rowsM_mem: ∀ {S:CMat} {l:Nat} {y:Nat×Entry},y∈rowsM l S→ ∃i,i<S.length∧y.1=l+1000*i
 |r::S,l,y,h=>by
   rcases List.mem_cons.1 h with rfl|h
   ·exact⟨0,by simp,by dsimp only;omega⟩
   ·obtain⟨i,hi,e⟩:=rowsM_mem h
    exact⟨i+1,by simpa using hi,by omega⟩
theorem rowsM_see: ∀ {S:CMat} {l i:Nat},i<S.length→l+1000*i∈(rowsM l S).map fun x=>x.1
 |r::S,l,0,_=>by simp[rowsM]
 |r::S,l,i+1,h=>by
   have:=rowsM_see (S:=S) (l:=l+1000) (i:=i) (by simpa using h)
   rw[show l+1000*(i+1)=l+1000+1000*i by omega]
   exact List.mem_cons_of_mem _ this
theorem rowsM_distinct: ∀(S:CMat) (l:Nat),Ab.distinct ((rowsM l S).map fun x=>x.1)=true
 |[],_=>rfl
 |r::S,l=>by
   have ih:=rowsM_distinct S (l+1000)
   have hn: ∀x,¬(l,x)∈rowsM (l+1000) S:=fun x hx=>by obtain⟨i,_,e⟩:=rowsM_mem hx;dsimp only at e;omega
   simp only[rowsM,List.map_cons,Ab.distinct,ih]
   simpa using hn
theorem rowsM_ren(r:Ren): ∀(S:CMat) (l:Nat),Loc.ren r (rowsM l S)=rowsM l S
 |[],_=>rfl
 |r0::S,l=>by
   have:=rowsM_ren r S (l+1000)
   simp only[rowsM,Loc.ren,List.map_cons]at this⊢
   rw[this];simp[Entry.map]
theorem ptrM_ren {r:Ren} {d l z n:Nat}(h: ∀i,i<n→r.a d (l+1000*i) 2 z 0 z= .asl d (l+1000*i) 2 z 0 z):(ptrM d l z n).map (V.mapAll r)=ptrM d l z n:=by
 unfold ptrM;rw[List.map_map]
 refine List.map_congr_left fun i hi=> ?_
 have:=h i (by simpa using hi)
 simp[V.mapAll,V.map,this]
theorem ptrM_drop {d d' l z n:Nat} {keep:List Nat}(h:d=d'→ ∀i,i<n→(l+1000*i)∈keep):(ptrM d l z n).map (V.mapAll (dropR d' keep))=ptrM d l z n:=ptrM_ren fun i hi=>by
 simp only[dropR]
 rw[if_neg]
 rintro⟨h1,h2⟩;exact h2 (h h1 i hi)
theorem get_matM_head(d l z:Nat)(S:CMat)(F:Ab.Loc):Loc.get (matM d l z S ++F) l=some (.arr 1 (ptrM d (l+1000) z S.length)):=by rw[matM,List.cons_append,Loc.get,if_pos rfl]
theorem get_matM_row(d l z:Nat)(S:CMat)(F:Ab.Loc) {i:Nat}(h:i<S.length):Loc.get (matM d l z S ++F) (l+1000+1000*i)=some (.arr 2 (rowV S i)):=by rw[matM,List.cons_append,Loc.get,if_neg (by omega),get_rowsM S _ F i h]
theorem get_matM_no(d l z:Nat)(S:CMat)(F:Ab.Loc) {k:Nat}(h: ∀i,i≤S.length→k≠l+1000*i):Loc.get (matM d l z S ++F) k=Loc.get F k:=by
 rw[matM,List.cons_append,Loc.get,if_neg (by have:=h 0 (by omega);omega),get_rowsM_no S _ F k fun i hi=>by have:=h (i+1) (by omega);omega]
theorem put_matM_row(d l z:Nat)(S:CMat)(F:Ab.Loc) {i:Nat}(h:i<S.length)(r:List CSp):Loc.put (matM d l z S ++F) (l+1000+1000*i) (.arr 2 (es cCSp r))=matM d l z (S.set i r) ++F:=by
 rw[matM,List.cons_append,Loc.put,if_neg (by omega),put_rowsM S _ F i r h,matM,List.length_set];rfl
theorem put_matM_no(d l z:Nat)(S:CMat)(F:Ab.Loc) {k:Nat}(x:Entry)(h: ∀i,i≤S.length→k≠l+1000*i):Loc.put (matM d l z S ++F) k x=matM d l z S ++Loc.put F k x:=by
 rw[matM,List.cons_append,Loc.put,if_neg (by have:=h 0 (by omega);omega),put_rowsM_no S _ F k x fun i hi=>by have:=h (i+1) (by omega);omega];rfl
theorem matM_mem {d l z:Nat} {S:CMat} {y:Nat×Entry}(h:y∈matM d l z S): ∃i,i≤S.length∧y.1=l+1000*i:=by
 rcases List.mem_cons.1 h with rfl|h
 ·exact⟨0,by omega,by dsimp only;omega⟩
 ·obtain⟨i,hi,e⟩:=rowsM_mem h
  exact⟨i+1,by omega,by omega⟩
theorem matM_see {d l z i:Nat} {S:CMat}(h:i≤S.length):l+1000*i∈(matM d l z S).map fun x=>x.1:=by
 cases i with
 |zero=>simp[matM]
 |succ i=>
   have:=rowsM_see (S:=S) (l:=l+1000) (i:=i) (by omega)
   rw[show l+1000*(i+1)=l+1000+1000*i by omega]
   exact List.mem_cons_of_mem _ this
theorem matM_distinct(d l z:Nat)(S:CMat):Ab.distinct ((matM d l z S).map fun x=>x.1)=true:=by
 have hn: ∀x,¬(l,x)∈rowsM (l+1000) S:=fun x hx=>by obtain⟨i,_,e⟩:=rowsM_mem hx;dsimp only at e;omega
 simp only[matM,List.map_cons,Ab.distinct,rowsM_distinct]
 simpa using hn
theorem matM_ren {r:Ren} {d l z:Nat} {S:CMat}(h:(ptrM d (l+1000) z S.length).map (V.mapAll r)=ptrM d (l+1000) z S.length):Loc.ren r (matM d l z S)=matM d l z S:=by
 unfold matM
 rw[show∀(e:Entry) (L:Ab.Loc),Loc.ren r ((l,e)::L)=(l,e.map r)::Loc.ren r L from fun _ _=>rfl,rowsM_ren,show∀x,Entry.map r (.arr 1 x)= .arr 1 (x.map (V.mapAll r))from fun _=>rfl,h]
theorem distinct_append {a b:List Nat}(h1:Ab.distinct a=true)(h2:Ab.distinct b=true)(h: ∀x,x∈a→x∉b):Ab.distinct (a ++b)=true:=by
 induction a with
 |nil=>exact h2
 |cons x a ih=>
   simp only[List.cons_append,Ab.distinct,Bool.and_eq_true,Bool.not_eq_true']at h1⊢
   refine⟨?_,ih h1.2 fun y hy=>h y (List.mem_cons_of_mem _ hy)⟩
   have hx:=h x (List.mem_cons_self ..)
   have h0:=h1.1
   simp only[List.contains_eq_mem,decide_eq_false_iff_not]at h0⊢
   intro hm
   rcases List.mem_append.1 hm with hm|hm
   ·exact h0 hm
   ·exact hx hm
theorem filter_all {keep:List Nat} {F:Ab.Loc}(h: ∀y,y∈F→keep.contains y.1=true):F.filter (fun x=>keep.contains x.1)=F:=List.filter_eq_self.2 h
theorem filter_none {keep:List Nat} {F:Ab.Loc}(h: ∀y,y∈F→keep.contains y.1=false):F.filter (fun x=>keep.contains x.1)=[]:=List.filter_eq_nil_iff.2 fun y hy=>by rw[h y hy];simp
end Go.Proofs.YthghcainodgnkaaGreat

/-
  Watch: the reference's difference: what a truth's number adds (not built yet).
-/
namespace Go.Proofs.YthghcainodgnkaaGreat
open Go.Ab
theorem loc_filter_true(F:Ab.Loc):F.filter (fun _=>true)=F:=List.filter_eq_self.2 fun _ _=>rfl
def wideR:AC:=(.region true (spl [⟨(some 55), .faddr 0 (.t 12),none,[],[]⟩,⟨(some 56), .load none (.t 55),none,[0],[]⟩,⟨(some 57), .mv (.t 14),none,[],[]⟩,⟨(some 58), .mv (.t 1),none,[],[]⟩,⟨(some 59), .idxs 1 (.t 57) (.t 58),none,[2,3],[]⟩,⟨(some 60), .load none (.t 59),none,[4,2,3],[]⟩,⟨(some 61), .mv (.t 2),none,[],[]⟩,⟨(some 62), .idxs 2 (.t 60) (.t 61),none,[5,6,4,2,3],[]⟩,⟨(some 63), .faddr 0 (.t 62),none,[7,5,6,4,2,3],[]⟩,⟨(some 64), .load none (.t 63),none,[8,7,5,6,4,2,3],[]⟩,⟨(some 65), .mv (.t 13),none,[],[]⟩,⟨(some 66), .bin .sub (.t 64) (.t 65),none,[9,10,8,7,5,6,4,2,3],[]⟩,⟨(some 67), .mm false (.t 56) (.t 66),none,[1,11,0,9,10,8,7,5,6,4,2,3],[]⟩,⟨(some 68), .faddr 1 (.t 12),none,[],[]⟩,⟨(some 69), .load none (.t 68),none,[13],[]⟩,⟨(some 70), .mv (.t 14),none,[],[]⟩,⟨(some 71), .mv (.t 1),none,[],[]⟩,⟨(some 72), .idxs 1 (.t 70) (.t 71),none,[15,16],[]⟩,⟨(some 73), .load none (.t 72),none,[17,15,16],[]⟩,⟨(some 74), .mv (.t 2),none,[],[]⟩,⟨(some 75), .idxs 2 (.t 73) (.t 74),none,[18,19,17,15,16],[]⟩,⟨(some 76), .faddr 1 (.t 75),none,[20,18,19,17,15,16],[]⟩,⟨(some 77), .load none (.t 76),none,[21,20,18,19,17,15,16],[]⟩,⟨(some 78), .mv (.t 13),none,[],[]⟩,⟨(some 79), .bin .sub (.t 77) (.t 78),none,[22,23,21,20,18,19,17,15,16],[]⟩,⟨(some 80), .mm true (.t 69) (.t 79),none,[14,24,13,22,23,21,20,18,19,17,15,16],[]⟩] [⟨(some 81), .build [(i64 0),(i64 0)] [(0,1,(.t 67)),(1,1,(.t 80))],none,[12,25,1,11,0,9,10,8,7,5,6,4,2,3,14,24,13,22,23,21,20,18,19,17,15,16],[]⟩,⟨none, .store 2 (.t 12) (.t 81),none,[26,12,25,1,11,0,9,10,8,7,5,6,4,2,3,14,24,13,22,23,21,20,18,19,17,15,16],[]⟩]) [1,2,3,4,5,10,11,12,13])
set_option maxHeartbeats 4000000 in
theorem e_dif_r9(t:CTrap)(C n:Nat)(s:Stk)(X X':Ab.Loc)(i c j d:Nat)(hi:i<n)(hc:c<C+1)(o x:CSp)(m:Int)(L:List (List V))(n1:L.length=C+1)(q1:L[c]? =some [i64 x.lo,i64 x.hi])(hx:(0≤x.lo∧x.lo≤40)∧0≤x.hi∧x.hi≤40)(hm:0≤m∧m≤40)
 (g1:Loc.get X 192=some (.cell [i64 o.lo,i64 o.hi])) (g2:Loc.get X 672=some (.arr 1 (ptrM s.length 1672 (C+1) n))) (g3:Loc.get X (1672+1000*i)=some (.arr 2 L))
 (u1:Loc.put X 192 (.cell [i64 (min o.lo (x.lo-m)),i64 (max o.hi (x.hi-m))])=X')
 (k1:Ab.distinct (X.map fun x=>x.1)=true) (k2: ∀x,¬(80,x)∈X) (k3: ∀x,¬(160,x)∈X) (k4:192∈X.map fun x=>x.1) (k5:672∈X.map fun x=>x.1) (k6:1672+1000*i∈X.map fun x=>x.1) (k7:Loc.ren (dropR s.length (80::160::X.map fun x=>x.1)) X=X):
 Run T wideR [(1,i64 i),(2,i64 c),(3,i64 j),(4,i64 d),(5, .ptr s.length 80 0),(10, .ptr s.length 160 0),(11, .asl s.length 256 1 n 0 n),(12, .ptr s.length 192 0),(13,i64 m),(14, .asl s.length 672 1 n 0 n),(54, .bool true)] (((80, .cell (vT t))::(160, .cell [i64 0,i64 0])::X)::s)=
  some (.normal,[(1,i64 i),(2,i64 c),(3,i64 j),(4,i64 d),(5, .ptr s.length 80 0),(10, .ptr s.length 160 0),(11, .asl s.length 256 1 n 0 n),(12, .ptr s.length 192 0),(13,i64 m)],((80, .cell (vT t))::(160, .cell [i64 0,i64 0])::X')::s):=by
 have hi2:(i:Int)<n:=by omega
 have hc3:(c:Int)<(C:Int)+1:=by omega
 have w1:IntKind.i64.wrap (x.lo-m)=x.lo-m:=wi _ (by omega) (by omega)
 have w2:IntKind.i64.wrap (x.hi-m)=x.hi-m:=wi _ (by omega) (by omega)
 obtain⟨_,q1⟩:=List.getElem?_eq_some_iff.1 q1
 have z1: ¬1672+1000*i=80:=by omega
 have z2: ¬1672+1000*i=160:=by omega
 have z3: ¬1672+1000*i=192:=by omega
 clear hx hm
 unfold wideR
 simp (maxSteps:=1000000) (disch:=first|omega|assumption|decide +kernel|(simp;done)|(simp;omega)|fail) [run_drawnK,loc_filter_true,hi,hi2,hc,hc3,g1,g2,g3,n1,q1,u1,w1,w2,k1,k2,k3,k4,k5,k6,k7,z1,z2,z3]
end Go.Proofs.YthghcainodgnkaaGreat

/-
  Watch: the reference's difference (not built yet).
-/
namespace Go.Proofs.YthghcainodgnkaaGreat
open Go.Ab
def difX0(d z:Nat)(S1:CMat)(o:CSp):Ab.Loc:=matM d 256 z S1 ++[(192, .cell [i64 o.lo,i64 o.hi])]
def difX(d z:Nat)(S1:CMat)(o:CSp)(S2:CMat):Ab.Loc:=matM d 256 z S1 ++((192, .cell [i64 o.lo,i64 o.hi])::matM d 672 z S2)
theorem difX_eq(d z S1 o S2):difX0 d z S1 o ++matM d 672 z S2=difX d z S1 o S2:=by simp[difX0,difX]
def keepD:List Nat:=[80,160,192,256,1256,2256,3256,4256,5256,6256,7256,8256]
theorem keep6 {keep:List Nat}(h:256∈keep∧1256∈keep∧2256∈keep∧3256∈keep∧4256∈keep∧5256∈keep): ∀i,i≤5→256+1000*i∈keep:=by
 intro i hi
 obtain⟨h0,h1,h2,h3,h4,h5⟩:=h
 have:i=0∨i=1∨i=2∨i=3∨i=4∨i=5:=by omega
 rcases this with rfl|rfl|rfl|rfl|rfl|rfl<;>assumption
section
variable (d z : Nat) (S1 S2 : CMat) (o : CSp) (h1 : S1.length ≤ 5) (h2 : S2.length ≤ 5)
theorem difX0_192:Loc.get (difX0 d z S1 o) 192=some (.cell [i64 o.lo,i64 o.hi]):=by
 unfold difX0;rw[get_matM_no _ _ _ _ _ fun i _=>by omega];rfl
theorem difX0_no {k:Nat}(hk:k≠192)(h: ∀i,i≤S1.length→k≠256+1000*i):Loc.get (difX0 d z S1 o) k=none:=by
 unfold difX0;rw[get_matM_no _ _ _ _ _ h,Loc.get,if_neg hk];rfl
theorem difX_192:Loc.get (difX d z S1 o S2) 192=some (.cell [i64 o.lo,i64 o.hi]):=by
 unfold difX;rw[get_matM_no _ _ _ _ _ fun i _=>by omega];rfl
theorem difX0_256:Loc.get (difX0 d z S1 o) 256=some (.arr 1 (ptrM d 1256 z S1.length)):=get_matM_head ..
theorem difX0_row {i:Nat}(h:i<S1.length):Loc.get (difX0 d z S1 o) (1256+1000*i)=some (.arr 2 (rowV S1 i)):=get_matM_row _ _ _ _ _ h
theorem difX_672:Loc.get (difX d z S1 o S2) 672=some (.arr 1 (ptrM d 1672 z S2.length)):=by
 unfold difX
 rw[get_matM_no _ _ _ _ _ fun i _=>by omega,Loc.get,if_neg (by omega)]
 have:=get_matM_head d 672 z S2 []
 rwa [List.append_nil]at this
theorem difX_row {i:Nat}(h:i<S2.length):Loc.get (difX d z S1 o S2) (1672+1000*i)=some (.arr 2 (rowV S2 i)):=by
 unfold difX
 rw[get_matM_no _ _ _ _ _ fun i _=>by omega,Loc.get,if_neg (by omega)]
 have:=get_matM_row d 672 z S2 [] h
 rwa [List.append_nil]at this
theorem difX_put192(o':CSp):Loc.put (difX d z S1 o S2) 192 (.cell [i64 o'.lo,i64 o'.hi])=difX d z S1 o' S2:=by
 unfold difX;rw[put_matM_no _ _ _ _ _ _ fun i _=>by omega,Loc.put,if_pos rfl]
theorem difX_putrow {i:Nat}(h:i<S2.length)(c:Nat)(x:CSp):Loc.put (difX d z S1 o S2) (1672+1000*i) (.arr 2 ((rowV S2 i).set c [i64 x.lo,i64 x.hi]))=difX d z S1 o (putS S2 i c x):=by
 have e:(rowV S2 i).set c [i64 x.lo,i64 x.hi]=es cCSp ((S2.getD i []).set c x):=by
  unfold rowV
  generalize S2.getD i []=r
  simp[es,List.map_set]
 unfold difX
 rw[put_matM_no _ _ _ _ _ _ fun i _=>by omega,Loc.put,if_neg (by omega),e]
 have:=put_matM_row d 672 z S2 [] h ((S2.getD i []).set c x)
 simp only[List.append_nil]at this
 rw[this];rfl
theorem difX_mem {y:Nat×Entry}(h:y∈difX d z S1 o S2):(∃i,i≤S1.length∧y.1=256+1000*i)∨y.1=192∨ ∃i,i≤S2.length∧y.1=672+1000*i:=by
 rcases List.mem_append.1 h with h|h
 ·exact .inl (matM_mem h)
 ·rcases List.mem_cons.1 h with rfl|h
  ·exact .inr (.inl rfl)
  ·exact .inr (.inr (matM_mem h))
theorem difX_distinct:Ab.distinct ((difX d z S1 o S2).map fun x=>x.1)=true:=by
 unfold difX
 rw[List.map_append]
 refine distinct_append (matM_distinct ..) ?_ ?_
 ·simp only[List.map_cons,Ab.distinct,matM_distinct]
  have: ∀x,¬(192,x)∈matM d 672 z S2:=fun x hx=>by obtain⟨i,_,e⟩:=matM_mem hx;dsimp only at e;omega
  simpa using this
 ·intro x hx hy
  obtain⟨y,hy1,rfl⟩:=List.mem_map.1 hx
  obtain⟨i,_,e⟩:=matM_mem hy1
  rcases List.mem_cons.1 hy with h|h
  ·dsimp only at h;omega
  ·obtain⟨y2,hy2,e2⟩:=List.mem_map.1 h
   obtain⟨i2,_,e3⟩:=matM_mem hy2
   omega
theorem difX_not {k:Nat}(hk:k=80∨k=160)(x:Entry): ¬(k,x)∈difX d z S1 o S2:=fun h=>by
 rcases difX_mem d z S1 S2 o h with ⟨i,_,e⟩|e|⟨i,_,e⟩<;>dsimp only at e<;>omega
theorem difX_see192:192∈(difX d z S1 o S2).map fun x=>x.1:=by simp[difX]
theorem difX_see2 {i:Nat}(h:i≤S2.length):672+1000*i∈(difX d z S1 o S2).map fun x=>x.1:=by
 unfold difX;rw[List.map_append]
 exact List.mem_append_right _ (List.mem_cons_of_mem _ (matM_see h))
theorem difX_see1 {i:Nat}(h:i≤S1.length):256+1000*i∈(difX d z S1 o S2).map fun x=>x.1:=by
 unfold difX;rw[List.map_append]
 exact List.mem_append_left _ (matM_see h)
theorem difX_ren(r:Ren)(e1:(ptrM d 1256 z S1.length).map (V.mapAll r)=ptrM d 1256 z S1.length)(e2:(ptrM d 1672 z S2.length).map (V.mapAll r)=ptrM d 1672 z S2.length):Loc.ren r (difX d z S1 o S2)=difX d z S1 o S2:=by
 unfold difX
 rw[show∀A B:Ab.Loc,Loc.ren r (A ++B)=Loc.ren r A ++Loc.ren r B from fun A B=>by simp[Loc.ren],matM_ren e1,show∀(e:Entry) (L:Ab.Loc),Loc.ren r ((192,e)::L)=(192,e.map r)::Loc.ren r L from fun _ _=>rfl,matM_ren e2]
 simp[Entry.map]
theorem difX_seen(l:List Nat):Loc.ren (dropR d (l ++(difX d z S1 o S2).map fun x=>x.1)) (difX d z S1 o S2)=difX d z S1 o S2:=by
 refine difX_ren _ _ _ _ _ _ (ptrM_drop fun _ i hi=>List.mem_append_right _ ?_) (ptrM_drop fun _ i hi=>List.mem_append_right _ ?_)
 ·have:=difX_see1 d z S1 S2 o (i:=i+1) hi
  rwa [show 256+1000*(i+1)=1256+1000*i by omega]at this
 ·have:=difX_see2 d z S1 S2 o (i:=i+1) hi
  rwa [show 672+1000*(i+1)=1672+1000*i by omega]at this
include h1
theorem difX0_gc:(difX0 d z S1 o).filter (fun x=>keepD.contains x.1)=difX0 d z S1 o:=filter_all fun y hy=>by
 have hk:=keep6 (keep:=keepD) (by simp[keepD])
 rcases List.mem_append.1 hy with hy|hy
 ·obtain⟨i,hi,e⟩:=matM_mem hy
  have:=hk i (by omega)
  rw[e];simpa using this
 ·rcases List.mem_cons.1 hy with rfl|hy
  ·rfl
  ·simp at hy
theorem difX0_ren:Loc.ren (dropR d keepD) (difX0 d z S1 o)=difX0 d z S1 o:=by
 have hk:=keep6 (keep:=keepD) (by simp[keepD])
 unfold difX0
 rw[show∀(r:Ren) (A B:Ab.Loc),Loc.ren r (A ++B)=Loc.ren r A ++Loc.ren r B from fun r A B=>by simp[Loc.ren],matM_ren (ptrM_drop fun _ i hi=>by
  have:=hk (i+1) (by omega)
  rwa [show 256+1000*(i+1)=256+1000+1000*i by omega]at this)]
 simp[Loc.ren,Entry.map]
include h2
theorem difX_gc:(difX d z S1 o S2).filter (fun x=>keepD.contains x.1)=difX0 d z S1 o:=by
 have h:=difX0_gc d z S1 o h1
 rw[←difX_eq,List.filter_append,h,filter_none fun y hy=> ?_,List.append_nil]
 obtain⟨i,hi,e⟩:=matM_mem hy
 have:i=0∨i=1∨i=2∨i=3∨i=4∨i=5:=by omega
 rw[e]
 rcases this with rfl|rfl|rfl|rfl|rfl|rfl<;>rfl
end
end Go.Proofs.YthghcainodgnkaaGreat

/-
  Watch: the reference's difference: a round (not built yet).
-/
namespace Go.Proofs.YthghcainodgnkaaGreat
open Go.Ab
theorem d_dif_l0:d144l0= .seq (.seq ( .region false [⟨(some 29), .mv (.t 13),none,[],[]⟩,⟨(some 30), .mv (.t 11),none,[],[]⟩,⟨(some 31), .mv (.t 3),none,[],[]⟩,⟨(some 32), .idxs 1 (.t 30) (.t 31),none,[],[]⟩,⟨(some 33), .load none (.t 32),none,[],[]⟩,⟨(some 34), .mv (.t 4),none,[],[]⟩,⟨(some 35), .idxs 2 (.t 33) (.t 34),none,[],[]⟩,⟨(some 36), .faddr 1 (.t 35),none,[],[]⟩,⟨(some 37), .load none (.t 36),none,[],[]⟩,⟨(some 38), .bin .leq (.t 29) (.t 37),none,[],[]⟩] [1,2,3,4,5,10,11,12,13,38]) ( .cond (.t 38) ( .skip) ( .exit 0))) (.seq (.block 1 (.seq (.region false [⟨(some 41), .load (some 4) (.t 5),none,[],[]⟩,⟨(some 42), .call 75 [(.t 41)],none,[],[]⟩,⟨(some 14), .mv (.t 42),none,[],[]⟩] [1,2,3,4,5,10,11,12,13,14]) (.seq (.region false [⟨(some 43), .mv (.t 14),none,[],[]⟩,⟨(some 44), .mv (.t 3),none,[],[]⟩,⟨(some 45), .idxs 1 (.t 43) (.t 44),none,[],[]⟩,⟨(some 46), .load none (.t 45),none,[],[]⟩,⟨(some 47), .mv (.t 4),none,[],[]⟩,⟨(some 48), .mv (.t 13),none,[],[]⟩,⟨(some 49), .mv (.t 13),none,[],[]⟩,⟨(some 50), .build [(i64 0),(i64 0)] [(0,1,(.t 48)),(1,1,(.t 49))],none,[],[]⟩,⟨(some 51), .idxs 2 (.t 46) (.t 47),none,[],[]⟩,⟨none, .store 2 (.t 51) (.t 50),none,[],[]⟩] [1,2,3,4,5,10,11,12,13,14]) (.seq (.region false [⟨(some 52), .load (some 4) (.t 5),none,[],[]⟩,⟨(some 53), .mv (.t 14),none,[],[]⟩,⟨(some 54), .call 74 [(.t 52),(.t 53)],none,[],[]⟩] [1,2,3,4,5,10,11,12,13,14,54]) (.cond (.t 54) wideR .skip))))) (.region false [⟨(some 39), .mv (.t 13),none,[],[]⟩,⟨(some 40), .bin .add (.t 39) (.c (i64 1)),none,[],[]⟩,⟨(some 13), .mv (.t 40),none,[],[]⟩] [1,2,3,4,5,10,11,12,13])):=rfl
set_option maxHeartbeats 4000000 in
theorem e_dif_round(t:CTrap)(h:TrapOk t)(hop: ∀l,l∈t.opn→l.length<4611686018427387904)(s:Stk)(S1:CMat)(hS1:Shape t.T t.C S1)(i c j d:Nat)(hi:i<t.T)(hc:c≤t.C)(hj:j<t.T)(hd:d≤t.C)(o:CSp)(m:Int)(hm:0≤m∧m≤40)(h0:d=t.C→m=0)(hle:m≤(atS S1 j d).hi):
 gcN [1,2,3,4,5,10,11,12,13] keepD (Run T d144l0 [(1,i64 i),(2,i64 c),(3,i64 j),(4,i64 d),(5, .ptr s.length 80 0),(10, .ptr s.length 160 0),(11, .asl s.length 256 1 t.T 0 t.T),(12, .ptr s.length 192 0),(13,i64 m)] (((80, .cell (vT t))::(160, .cell [i64 0,i64 0])::difX0 s.length (t.C+1) S1 o)::s))=
  some (.normal,[(1,i64 i),(2,i64 c),(3,i64 j),(4,i64 d),(5, .ptr s.length 80 0),(10, .ptr s.length 160 0),(11, .asl s.length 256 1 t.T 0 t.T),(12, .ptr s.length 192 0),(13,i64 (m+1))],
   ((80, .cell (vT t))::(160, .cell [i64 0,i64 0])::difX0 s.length (t.C+1) S1 (if (settleR t (putS (freeL t) j d ⟨m,m⟩)).1=true then⟨min o.lo ((atS (settleR t (putS (freeL t) j d ⟨m,m⟩)).2 i c).lo-m),max o.hi ((atS (settleR t (putS (freeL t) j d ⟨m,m⟩)).2 i c).hi-m)⟩else o))::s):=by
 have htt:=h.tt
 have hcc:=h.cc
 have e1:t.C=t.chambers.toNat:=rfl
 have e2:t.T=t.times.toNat:=rfl
 have hl1:S1.length≤5:=by rw[hS1.len];omega
 have hIp:=InvS.put t hj hd hm h0
 have hsp:=settleR_spec h hIp.shape hIp.near
 have hF0:=free_shape t
 have hlF:(freeL t).length≤5:=by rw[hF0.len];omega
 have a1:=difX0_256 s.length (t.C+1) S1 o
 rw[hS1.len]at a1
 have a2:=difX0_row s.length (t.C+1) S1 o (i:=j) (by rw[hS1.len];exact hj)
 have a3:=rowV_len hS1 hj
 have a4:=rowV_get hS1 hj hd
 have hFA:FreeAt ((80, .cell (vT t))::(160, .cell [i64 0,i64 0])::difX0 s.length (t.C+1) S1 o) 672:=fun q hq=>by
  rw[Loc.get,if_neg (by omega),Loc.get,if_neg (by omega)]
  exact difX0_no _ _ _ _ (by omega) fun _ _=>by omega
 have b1:=e_free t h.cc h.tt _ s 672 hFA
 have b2:=fun lab=>e_settle_mat t h hop _ s 672 _ hIp hFA lab
 simp only[List.cons_append,difX_eq]at b1 b2
 have c1:=difX_672 s.length (t.C+1) S1 (freeL t) o
 rw[hF0.len]at c1
 have c2:=difX_row s.length (t.C+1) S1 (freeL t) o (i:=j) (by rw[hF0.len];exact hj)
 have c3:=rowV_len hF0 hj
 have c4:=difX_putrow s.length (t.C+1) S1 (freeL t) o (i:=j) (by rw[hF0.len];exact hj) d ⟨m,m⟩
 have c5:=rowV_get hF0 hj hd
 have lP:(putS (freeL t) j d ⟨m,m⟩).length≤5:=by rw[hIp.shape.len];omega
 have lR:(settleR t (putS (freeL t) j d ⟨m,m⟩)).2.length≤5:=by rw[hsp.shape.len];omega
 have gc1:=fun o=>difX_gc s.length (t.C+1) S1 (settleR t (putS (freeL t) j d ⟨m,m⟩)).2 o hl1 lR
 have rn0:=fun o=>difX0_ren s.length (t.C+1) S1 o hl1
 have wr:=fun(hx:(settleR t (putS (freeL t) j d ⟨m,m⟩)).1=true)=>e_dif_r9 t t.C t.T s (difX s.length (t.C+1) S1 o (settleR t (putS (freeL t) j d ⟨m,m⟩)).2) _ i c j d hi (by omega) o (atS (settleR t (putS (freeL t) j d ⟨m,m⟩)).2 i c) m _ (rowV_len hsp.shape hi) (rowV_get hsp.shape hi hc)
  (by have k1 := hsp.near.lo i c hi hc; have k2 := hsp.near.hi i c hi hc; have k3 := (hsp.los hx).1; have k4 := (hsp.his hx).1 i c hi hc; have k5 := (hsp.le i c hi hc)
      have k6:(atS (settleR t (putS (freeL t) j d ⟨m,m⟩)).2 i c).lo≤(atS (settleR t (putS (freeL t) j d ⟨m,m⟩)).2 i c).hi:=by
       unfold settleR at hx⊢
       rw[settleF_pass]at hx⊢
       split at hx
       ·rename_i hp
        rw[if_pos hp]
        exact okS_iff.1 hx i c hi hc
       ·simp at hx
      omega) hm
  (difX_192 ..) (by have:=difX_672 s.length (t.C+1) S1 (settleR t (putS (freeL t) j d ⟨m,m⟩)).2 o;rwa [hsp.shape.len]at this) (difX_row _ _ _ _ _ (by rw[hsp.shape.len];exact hi)) (difX_put192 s.length (t.C+1) S1 (settleR t (putS (freeL t) j d ⟨m,m⟩)).2 o ⟨min o.lo ((atS (settleR t (putS (freeL t) j d ⟨m,m⟩)).2 i c).lo-m),max o.hi ((atS (settleR t (putS (freeL t) j d ⟨m,m⟩)).2 i c).hi-m)⟩) (difX_distinct ..) (fun x=>difX_not _ _ _ _ _ (.inl rfl) x) (fun x=>difX_not _ _ _ _ _ (.inr rfl) x) (difX_see192 ..) (by have:=difX_see2 s.length (t.C+1) S1 (settleR t (putS (freeL t) j d ⟨m,m⟩)).2 o (i:=0) (by omega);simpa using this)
  (by have:=difX_see2 s.length (t.C+1) S1 (settleR t (putS (freeL t) j d ⟨m,m⟩)).2 o (i:=i+1) (by rw[hsp.shape.len];omega);rwa [show 672+1000*(i+1)=1672+1000*i by omega]at this) (difX_seen s.length (t.C+1) S1 (settleR t (putS (freeL t) j d ⟨m,m⟩)).2 o [80,160])
 have f1:(j:Int)<t.T:=by omega
 have f2:(d:Int)<(t.C:Int)+1:=by omega
 have f3:d<t.C+1:=by omega
 have z1: ¬1256+1000*j=80:=by omega
 have z2: ¬1256+1000*j=160:=by omega
 have z3: ¬1672+1000*j=80:=by omega
 have z4: ¬1672+1000*j=160:=by omega
 have w1:IntKind.i64.wrap (m+1)=m+1:=wi _ (by omega) (by omega)
 have g192:=difX_192 s.length (t.C+1) S1
 clear hIp hsp hF0 hFA lP lR hS1 hlF h0
 rw[d_dif_l0]
 generalize atS (settleR t (putS (freeL t) j d ⟨m,m⟩)).2 i c=x at*
 generalize settleR t (putS (freeL t) j d ⟨m,m⟩)=r at*
 obtain⟨r1,r2⟩:=r
 generalize putS (freeL t) j d ⟨m,m⟩=P at*
 obtain⟨_,a4⟩:=List.getElem?_eq_some_iff.1 a4
 obtain⟨_,c5⟩:=List.getElem?_eq_some_iff.1 c5
 generalize rowV S1 j=L1 at*
 generalize rowV (freeL t) j=L2 at*
 generalize atS S1 j d=y at*
 generalize atS (freeL t) j d=y2 at*
 generalize freeL t=FL at*
 generalize t.T=n at*
 clear e1
 generalize t.C=C at*
 dsimp only at*
 simp only[keepD]
 simp[keepD]at gc1 rn0
 cases r1
 ·clear wr
  simp (maxSteps:=1000000) (disch:=first|omega|assumption|decide +kernel|(simp;done)|(simp;omega)|fail) [hle,f1,f2,f3,z1,z2,z3,z4,w1,a1,a2,a3,a4,b1,b2,c1,c2,c3,c4,c5,gc1,rn0,hl1,g192,hj,hd]
 ·have wr:=wr rfl
  simp (maxSteps:=1000000) (disch:=first|omega|assumption|decide +kernel|(simp;done)|(simp;omega)|fail) [hle,f1,f2,f3,z1,z2,z3,z4,w1,a1,a2,a3,a4,b1,b2,c1,c2,c3,c4,c5,gc1,rn0,hl1,g192,hj,hd,wr]
end Go.Proofs.YthghcainodgnkaaGreat

/-
  Watch: the reference's difference, whole (not built yet).
-/
namespace Go.Proofs.YthghcainodgnkaaGreat
open Go.Ab
section
variable (t : CTrap) (h : TrapOk t) (hop : ∀ l, l ∈ t.opn → l.length < 4611686018427387904) (s : Stk) (i c j d : Nat) (hi : i < t.T) (hc : c ≤ t.C) (hj : j < t.T) (hd : d ≤ t.C)
include h hop hi hc hj hd
set_option maxHeartbeats 2000000 in
theorem e_dif_l0:
 Run T b144l0 [(1,i64 i),(2,i64 c),(3,i64 j),(4,i64 d),(5, .ptr s.length 80 0),(10, .ptr s.length 160 0),(11, .asl s.length 256 1 t.T 0 t.T),(12, .ptr s.length 192 0),(13,i64 (atS (settleR t (freeL t)).2 j d).lo)] (((80, .cell (vT t))::(160, .cell [i64 0,i64 0])::difX0 s.length (t.C+1) (settleR t (freeL t)).2 ⟨41,-41⟩)::s)=
  some (.exit 0,[(1,i64 i),(2,i64 c),(3,i64 j),(4,i64 d),(5, .ptr s.length 80 0),(10, .ptr s.length 160 0),(11, .asl s.length 256 1 t.T 0 t.T),(12, .ptr s.length 192 0),(13,i64 ((atS (settleR t (freeL t)).2 j d).lo+((((atS (settleR t (freeL t)).2 j d).hi+1-(atS (settleR t (freeL t)).2 j d).lo).toNat:Nat):Int))),(38, .bool false)],
   ((80, .cell (vT t))::(160, .cell [i64 0,i64 0])::difX0 s.length (t.C+1) (settleR t (freeL t)).2 (difR t i c j d))::s):=by
 have htt:=h.tt
 have hcc:=h.cc
 have e1:t.C=t.chambers.toNat:=rfl
 have e2:t.T=t.times.toNat:=rfl
 have hsp:=settleR_spec h (free_shape t) (free_near t)
 have hn1:=hsp.near.lo j d hj hd
 have hn2:=hsp.near.hi j d hj hd
 have hC0:d=t.C→(atS (settleR t (freeL t)).2 j d).hi≤0:=fun e=>by
  have:=(hsp.le j d hj hd).2
  rw[free_at t hj hd,if_pos e]at this
  exact this
 have hS1:=hsp.shape
 have hl1:(settleR t (freeL t)).2.length≤5:=by rw[hS1.len];omega
 have hgr: ∀o,Loc.ren (dropR s.length keepD) ((difX0 s.length (t.C+1) (settleR t (freeL t)).2 o).filter fun x=>keepD.contains x.1)=difX0 s.length (t.C+1) (settleR t (freeL t)).2 o:=fun o=>by rw[difX0_gc s.length (t.C+1) _ o hl1,difX0_ren s.length (t.C+1) _ o hl1]
 have a1:=difX0_256 s.length (t.C+1) (settleR t (freeL t)).2
 rw[hS1.len]at a1
 have a2:=fun o=>difX0_row s.length (t.C+1) (settleR t (freeL t)).2 o (i:=j) (by rw[hS1.len];exact hj)
 have a3:=rowV_len hS1 hj
 have a4:=rowV_get hS1 hj hd
 have ed:difR t i c j d=(List.range ((atS (settleR t (freeL t)).2 j d).hi+1-(atS (settleR t (freeL t)).2 j d).lo).toNat).foldl (difStep t i c j d (atS (settleR t (freeL t)).2 j d).lo) ⟨41,-41⟩:=rfl
 rw[ed]
 clear ed hsp
 have hround:=fun(o:CSp) (m:Int)=>e_dif_round t h hop s (settleR t (freeL t)).2 hS1 i c j d hi hc hj hd o m
 clear hS1
 generalize hy:atS (settleR t (freeL t)).2 j d=y at*
 generalize (settleR t (freeL t)).2=S1 at*
 generalize hN:(y.hi+1-y.lo).toNat=N at*
 simp only[keepD]at hround
 simp[keepD]at hgr
 have key:=loop_fold (T:=T) (live:=[1,2,3,4,5,10,11,12,13]) (keep:=[80,160,192,256,1256,2256,3256,4256,5256,6256,7256,8256]) (b:=d144l0) (List.range N) (fun _ _=>True) (difStep t i c j d y.lo) (fun k _=>[(1,i64 i),(2,i64 c),(3,i64 j),(4,i64 d),(5, .ptr s.length 80 0),(10, .ptr s.length 160 0),(11, .asl s.length 256 1 t.T 0 t.T),(12, .ptr s.length 192 0),(13,i64 (y.lo+(k:Nat)))]) (fun _ o=>((80, .cell (vT t))::(160, .cell [i64 0,i64 0])::difX0 s.length (t.C+1) S1 o)::s)
  (fun o=>(.exit 0,[(1,i64 i),(2,i64 c),(3,i64 j),(4,i64 d),(5, .ptr s.length 80 0),(10, .ptr s.length 160 0),(11, .asl s.length 256 1 t.T 0 t.T),(12, .ptr s.length 192 0),(13,i64 (y.lo+(N:Nat))),(38, .bool false)],((80, .cell (vT t))::(160, .cell [i64 0,i64 0])::difX0 s.length (t.C+1) S1 o)::s)) (by simp) ?_ ?_ ?_ ⟨41,-41⟩ trivial [(1,i64 i),(2,i64 c),(3,i64 j),(4,i64 d),(5, .ptr s.length 80 0),(10, .ptr s.length 160 0),(11, .asl s.length 256 1 t.T 0 t.T),(12, .ptr s.length 192 0),(13,i64 y.lo)] (((80, .cell (vT t))::(160, .cell [i64 0,i64 0])::difX0 s.length (t.C+1) S1 ⟨41,-41⟩)::s) (by simp) (by simp[hgr])
 ·exact key
 ·intro k o hk _
  simp only[List.length_range]at hk
  simp only[List.getElem_range]
  have h1:=hround o (y.lo+(k:Nat)) (by omega) (fun e=>by have:=hC0 e;omega) (by omega)
  rw[h1]
  have e3:((k+1:Nat):Int)=(k:Int)+1:=rfl
  rw[e3,←Int.add_assoc]
  rfl
 ·intro k a hk _
  trivial
 ·intro o _
  have hz: ¬y.lo+(N:Int)≤y.hi:=by omega
  have f1:(j:Int)<t.T:=by omega
  have f2:(d:Int)<(t.C:Int)+1:=by omega
  have f3:d<t.C+1:=by omega
  have z1: ¬1256+1000*j=80:=by omega
  have z2: ¬1256+1000*j=160:=by omega
  obtain⟨_,a4⟩:=List.getElem?_eq_some_iff.1 a4
  clear hround hgr
  simp only[List.length_range]
  generalize rowV S1 j=L1 at*
  generalize t.T=n at*
  clear e1
  generalize t.C=C at*
  generalize y.lo+(N:Int)=m at*
  simp (maxSteps:=1000000) (disch:=first|omega|assumption|decide +kernel|(simp;done)|(simp;omega)|fail) [hz,f1,f2,f3,z1,z2,a1,a2,a3,a4,hj]
set_option maxHeartbeats 2000000 in
theorem e_difference(lab):den T 144 [.agg (vT t),i64 i,i64 c,i64 j,i64 d] lab s=some (.agg [i64 (difR t i c j d).lo,i64 (difR t i c j d).hi],s):=by
 have htt:=h.tt
 have hcc:=h.cc
 have e1:t.C=t.chambers.toNat:=rfl
 have e2:t.T=t.times.toNat:=rfl
 have hsp:=settleR_spec h (free_shape t) (free_near t)
 have hl0:=e_dif_l0 t h hop s i c j d hi hc hj hd
 have hFA:FreeAt [(80, .cell (vT t)),(160, .cell [i64 0,i64 0])] 256:=fun q hq=>by
  rw[Loc.get,if_neg (by omega),Loc.get,if_neg (by omega)];rfl
 have b1:=e_free t h.cc h.tt _ s 256 hFA
 have b2:=fun lab=>e_settle_mat t h hop _ s 256 _ (InvS.free t) hFA lab
 have hS1:=hsp.shape
 have a1:=difX0_256 s.length (t.C+1) (settleR t (freeL t)).2
 rw[hS1.len]at a1
 have a2:=fun o=>difX0_row s.length (t.C+1) (settleR t (freeL t)).2 o (i:=j) (by rw[hS1.len];exact hj)
 have a3:=rowV_len hS1 hj
 have a4:=rowV_get hS1 hj hd
 have a5:=difX0_192 s.length (t.C+1) (settleR t (freeL t)).2
 have p0:Loc.get (matM s.length 256 (t.C+1) (settleR t (freeL t)).2) 192=none:=by
  have:=get_matM_no s.length 256 (t.C+1) (settleR t (freeL t)).2 [] (k:=192) fun i _=>by omega
  rwa [List.append_nil]at this
 have p1:Loc.put (matM s.length 256 (t.C+1) (settleR t (freeL t)).2) 192 (.cell [i64 0,i64 0])=difX0 s.length (t.C+1) (settleR t (freeL t)).2 ⟨0,0⟩:=by
  have:=put_matM_no s.length 256 (t.C+1) (settleR t (freeL t)).2 [] (k:=192) (.cell [i64 0,i64 0]) fun i _=>by omega
  rwa [List.append_nil]at this
 have p2:Loc.put (difX0 s.length (t.C+1) (settleR t (freeL t)).2 ⟨0,0⟩) 192 (.cell [i64 41,i64 (-41)])=difX0 s.length (t.C+1) (settleR t (freeL t)).2 ⟨41,-41⟩:=by
  unfold difX0
  rw[put_matM_no _ _ _ _ _ _ fun i _=>by omega,Loc.put,if_pos rfl]
 have f1:(j:Int)<t.T:=by omega
 have f2:(d:Int)<(t.C:Int)+1:=by omega
 have f3:d<t.C+1:=by omega
 have z1: ¬1256+1000*j=80:=by omega
 have z2: ¬1256+1000*j=160:=by omega
 obtain⟨_,a4⟩:=List.getElem?_eq_some_iff.1 a4
 simp only[List.cons_append,List.nil_append]at b1 b2
 clear hsp hS1 hFA
 generalize difR t i c j d=D at*
 generalize atS (settleR t (freeL t)).2 j d=y at*
 generalize y.lo+(((y.hi+1-y.lo).toNat:Nat):Int)=e at*
 generalize rowV (settleR t (freeL t)).2 j=L1 at*
 generalize settleR t (freeL t)=r at*
 obtain⟨r1,S1⟩:=r
 dsimp only at*
 generalize matM s.length 256 (t.C+1) (freeL t)=M0 at*
 generalize matM s.length 256 (t.C+1) S1=M1 at*
 generalize difX0 s.length (t.C+1) S1=X at*
 generalize t.T=n at*
 clear e1
 generalize t.C=C at*
 rw[den_fn t144 _ _ _ rfl]
 simp only[b144]
 simp (maxSteps:=1000000) (disch:=first|omega|assumption|decide +kernel|(simp;done)|(simp;omega)|fail) [hl0,b1,b2,a1,a2,a3,a4,a5,p0,p1,p2,f1,f2,f3,z1,z2,hj]
end
end Go.Proofs.YthghcainodgnkaaGreat

/-
  Watch: the reference's FishOf, Came.
-/
namespace Go.Proofs.YthghcainodgnkaaGreat
open Go.Ab
set_option maxHeartbeats 1000000 in
theorem e_FishOf(t:CTrap)(h:TrapOk t)(hop: ∀l,l∈t.opn→l.length<4611686018427387904)(i c:Nat)(hi:i<t.T)(hc:c<t.C)(lab s):den T 104 [.agg (vT t),i64 i,i64 c] lab s=some (.agg [i64 (difR t i c i (c+1)).lo,i64 (difR t i c i (c+1)).hi],s):=by
 have hcc:=h.cc
 have e1:t.C=t.chambers.toNat:=rfl
 have hd:=fun lab s=>e_difference t h hop s i c i (c+1) hi (Nat.le_of_lt hc) hi hc lab
 simp only[show((c+1:Nat):Int)=(c:Int)+1 from rfl]at hd
 have w1:IntKind.i64.wrap ((c:Int)+1)=(c:Int)+1:=wi _ (by omega) (by omega)
 generalize difR t i c i (c+1)=D at*
 rw[den_fn t104 _ _ _ rfl]
 simp only[b104]
 simp (maxSteps:=1000000) (disch:=first|omega|assumption|decide +kernel|(simp;done)|(simp;omega)|fail) [hd,w1]
set_option maxHeartbeats 1000000 in
theorem e_Came01(t:CTrap)(hs:ShortT t)(hB:trapB t=true)(i j:Int)(lab s):den T 108 [.agg (vT t),i64 i,i64 j] lab s=some (.tup [.agg [i64 (cameC t i j).1.lo,i64 (cameC t i j).1.hi],i64 (cameC t i j).2],s):=by
 have hm:=trapB_mid hB
 have hok:=trapB_ok hB
 have htt:=hok.tt
 have hk:=fun is lab s=>e_known01 t hs is lab s
 have t1:=fun i lab s=>e_isTime01 t hm i lab s
 have ep:(wiB i 0 j&&decide (j<t.times))=(wiB i 0 (t.times-1)&&(wiB j 0 (t.times-1)&&decide (i≤j))):=by
  rw[Bool.eq_iff_iff]
  simp only[Bool.and_eq_true,wiB_iff,decide_eq_true_eq]
  omega
 unfold cameC
 rw[ep]
 by_cases h:openT t (wiB i 0 (t.times-1)&&(wiB j 0 (t.times-1)&&decide (i≤j)))=0
 ·obtain⟨k1,k2,k3⟩:=openT_ok h
  have k4:=k2
  simp only[Bool.and_eq_true,wiB_iff,decide_eq_true_eq]at k4
  have e1:t.C=t.chambers.toNat:=rfl
  have e2:t.T=t.times.toNat:=rfl
  obtain⟨i,rfl⟩: ∃n:Nat,i=n:=⟨i.toNat,by omega⟩
  obtain⟨j,rfl⟩: ∃n:Nat,j=n:=⟨j.toNat,by omega⟩
  have hd:=fun lab s=>e_difference t hok (trapB_open hB) s j 0 i 0 (by omega) (Nat.zero_le _) (by omega) (Nat.zero_le _) lab
  simp only[show((0:Nat):Int)=0 from rfl]at hd
  have c1:wiB (i:Int) 0 (t.times-1)=true:=wiB_iff.2 k4.1
  have c2:wiB (j:Int) 0 (t.times-1)=true:=wiB_iff.2 k4.2.1
  have c3:(i:Int)≤j:=k4.2.2
  have c4:i≤j:=by omega
  rw[if_pos h]
  have hk:=fun lab s=>hk true lab s
  rw[k2]at h
  rw[h]at hk
  simp only[Int.toNat_natCast]
  generalize difR t j 0 i 0=D at*
  rw[den_fn t108 _ _ _ rfl]
  simp only[b108]
  simp (maxSteps:=1000000) (disch:=first|omega|assumption|decide +kernel|(simp;done)|(simp;omega)|fail) [run_drawnK,orSlow_none,t1,c1,c2,c3,c4,hk,hd]
 ·rw[if_neg h]
  rw[den_fn t108 _ _ _ rfl]
  simp only[b108]
  cases c1:wiB i 0 (t.times-1)
  ·rw[c1]at h
   simp only[Bool.false_and]at h⊢
   simp (maxSteps:=1000000) (disch:=first|omega|assumption|decide +kernel|(simp;done)|(simp;omega)|fail) [run_drawnK,orSlow_none,t1,c1,hk,h]
  ·cases c2:wiB j 0 (t.times-1)
   ·rw[c1,c2]at h
    simp only[Bool.false_and,Bool.true_and]at h⊢
    simp (maxSteps:=1000000) (disch:=first|omega|assumption|decide +kernel|(simp;done)|(simp;omega)|fail) [run_drawnK,orSlow_none,t1,c1,c2,hk,h]
   ·by_cases c3:i≤j
    ·simp only[c1,c2,c3,Bool.true_and,decide_true]at h⊢
     simp (maxSteps:=1000000) (disch:=first|omega|assumption|decide +kernel|(simp;done)|(simp;omega)|fail) [run_drawnK,orSlow_none,t1,c1,c2,c3,hk,h]
    ·simp only[c1,c2,c3,Bool.true_and,decide_false]at h⊢
     simp (maxSteps:=1000000) (disch:=first|omega|assumption|decide +kernel|(simp;done)|(simp;omega)|fail) [run_drawnK,orSlow_none,t1,c1,c2,c3,hk,h]
end Go.Proofs.YthghcainodgnkaaGreat

/-
  Watch: the reference's Copy (not built yet).
-/
namespace Go.Proofs.YthghcainodgnkaaGreat
open Go.Ab
def cpyF(t:CTrap)(d:Nat)(wE:Ab.Loc)(wv:V)(a:List (List Int)):Ab.Loc:=
 (16, .cell (vT t))::(32, .cell [i64 0,i64 0, .sl .full 1 [], .sl .full 4 []])::(wE ++[(48, .cell [i64 t.chambers,i64 t.times, .sl (.own d 52) 1 (es cInts a),wv]),(52, .tok a.length)])
set_option maxHeartbeats 2000000 in
theorem e_Copy_l0(t:CTrap)(hs:ShortT t)(ho:t.opn.length<1000000)(he: ∀l,l∈t.opn→l.length<1000000)(hw:t.words=[])(s:Stk):
 Run T b81l0 [(1, .ptr s.length 16 0),(2, .ptr s.length 32 0),(3, .ptr s.length 48 0),(4,i64 0)] (cpyF t s.length [] (.sl .full 4 []) []::s)=
  some (.exit 0,[(1, .ptr s.length 16 0),(2, .ptr s.length 32 0),(3, .ptr s.length 48 0),(4,i64 t.opn.length),(18, .bool false)],cpyF t s.length [] (.sl .full 4 []) t.opn::s):=by
 have key:=loop_fold (T:=T) (live:=[1,2,3,4]) (keep:=[16,32,48,52,144,192]) (b:=d81l0) t.opn (fun k (a:List (List Int))=>a.length=k) (fun a x=>a ++[x])
  (fun k _=>[(1, .ptr s.length 16 0),(2, .ptr s.length 32 0),(3, .ptr s.length 48 0),(4,i64 k)]) (fun _ a=>cpyF t s.length [] (.sl .full 4 []) a::s)
  (fun a=>(.exit 0,[(1, .ptr s.length 16 0),(2, .ptr s.length 32 0),(3, .ptr s.length 48 0),(4,i64 t.opn.length),(18, .bool false)],cpyF t s.length [] (.sl .full 4 []) a::s))
  (by simp) ?_ ?_ ?_ [] (by simp) [(1, .ptr s.length 16 0),(2, .ptr s.length 32 0),(3, .ptr s.length 48 0),(4,i64 0)] (cpyF t s.length [] (.sl .full 4 []) []::s) (by simp) (by simp[cpyF])
 ·have e: ∀(l a:List (List Int)),l.foldl (fun a x=>a ++[x]) a=a ++l:=by
   intro l
   induction l with
   |nil=>simp
   |cons x r ih=>intro a;simp[ih]
  rw[e,List.nil_append]at key
  exact key
 ·intro k a hk hi
  subst hi
  have hx:=he t.opn[a.length] (List.getElem_mem hk)
  have hk2:(a.length:Int)<t.opn.length:=by omega
  have e0: ∀x,es cInts a ++[[.sl .no 1 (es cInt x)]]=es cInts (a ++[x]):=fun x=>by simp[es]
  generalize hR:t.opn[a.length]=R at*
  by_cases h0:R=[]
  ·subst h0
   have e0:=e0 []
   simp only[es_nil]at e0
   simp (maxSteps:=1000000) (disch:=first|omega|assumption|decide +kernel|(simp;done)|(simp;omega)|fail) [run_drawnK,cpyF,hk,hk2,hR,e0,appD_full_nil,appK_own1,wk a.length (by omega)]
  ·have hne:es cInt R≠[]:=by simpa using h0
   simp (maxSteps:=1000000) (disch:=first|omega|assumption|decide +kernel|(simp;done)|(simp;omega)|fail) [run_drawnK,cpyF,hk,hk2,hR,e0,hne,appD_full,appK_own1,wk a.length (by omega)]
 ·intro k a hk hi
  simp[hi]
 ·intro a hi
  simp[cpyF]
set_option maxHeartbeats 2000000 in
theorem e_Copy_l1(t:CTrap)(hs:ShortT t)(ho:t.opn.length<1000000)(he: ∀l,l∈t.opn→l.length<1000000)(hw:t.words≠[])(s:Stk):
 Run T b81l0 [(1, .ptr s.length 16 0),(2, .ptr s.length 32 0),(3, .ptr s.length 48 0),(4,i64 0)] (cpyF t s.length [(192, .tok t.words.length)] (.sl (.own s.length 192) 4 (es cWord t.words)) []::s)=
  some (.exit 0,[(1, .ptr s.length 16 0),(2, .ptr s.length 32 0),(3, .ptr s.length 48 0),(4,i64 t.opn.length),(18, .bool false)],cpyF t s.length [(192, .tok t.words.length)] (.sl (.own s.length 192) 4 (es cWord t.words)) t.opn::s):=by
 have key:=loop_fold (T:=T) (live:=[1,2,3,4]) (keep:=[16,32,48,52,144,192]) (b:=d81l0) t.opn (fun k (a:List (List Int))=>a.length=k) (fun a x=>a ++[x])
  (fun k _=>[(1, .ptr s.length 16 0),(2, .ptr s.length 32 0),(3, .ptr s.length 48 0),(4,i64 k)]) (fun _ a=>cpyF t s.length [(192, .tok t.words.length)] (.sl (.own s.length 192) 4 (es cWord t.words)) a::s)
  (fun a=>(.exit 0,[(1, .ptr s.length 16 0),(2, .ptr s.length 32 0),(3, .ptr s.length 48 0),(4,i64 t.opn.length),(18, .bool false)],cpyF t s.length [(192, .tok t.words.length)] (.sl (.own s.length 192) 4 (es cWord t.words)) a::s))
  (by simp) ?_ ?_ ?_ [] (by simp) [(1, .ptr s.length 16 0),(2, .ptr s.length 32 0),(3, .ptr s.length 48 0),(4,i64 0)] (cpyF t s.length [(192, .tok t.words.length)] (.sl (.own s.length 192) 4 (es cWord t.words)) []::s) (by simp) (by simp[cpyF])
 ·have e: ∀(l a:List (List Int)),l.foldl (fun a x=>a ++[x]) a=a ++l:=by
   intro l
   induction l with
   |nil=>simp
   |cons x r ih=>intro a;simp[ih]
  rw[e,List.nil_append]at key
  exact key
 ·intro k a hk hi
  subst hi
  have hx:=he t.opn[a.length] (List.getElem_mem hk)
  have hk2:(a.length:Int)<t.opn.length:=by omega
  have e0: ∀x,es cInts a ++[[.sl .no 1 (es cInt x)]]=es cInts (a ++[x]):=fun x=>by simp[es]
  generalize hR:t.opn[a.length]=R at*
  by_cases h0:R=[]
  ·subst h0
   have e0:=e0 []
   simp only[es_nil]at e0
   simp (maxSteps:=1000000) (disch:=first|omega|assumption|decide +kernel|(simp;done)|(simp;omega)|fail) [run_drawnK,cpyF,hk,hk2,hR,e0,appD_full_nil,appK_own1,wk a.length (by omega)]
  ·have hne:es cInt R≠[]:=by simpa using h0
   simp (maxSteps:=1000000) (disch:=first|omega|assumption|decide +kernel|(simp;done)|(simp;omega)|fail) [run_drawnK,cpyF,hk,hk2,hR,e0,hne,appD_full,appK_own1,wk a.length (by omega)]
 ·intro k a hk hi
  simp[hi]
 ·intro a hi
  simp[cpyF]
set_option maxHeartbeats 2000000 in
theorem e_Copy01_0(t:CTrap)(hs:ShortT t)(ho:t.opn.length<1000000)(he: ∀l,l∈t.opn→l.length<1000000)(hw:t.words=[])(loc:Ab.Loc)(s:Stk)(lab:Nat)(k0:loc.get lab=none):
 den T 81 [.agg (vT t)] lab (loc::s)=some (.agg [i64 t.chambers,i64 t.times, .sl (.own s.length lab) 1 (es cInts t.opn), .sl .full 4 []],loc.put lab (.tok t.opn.length)::s):=by
 have key:=e_Copy_l0 t hs ho he hw (loc::s)
 simp only[cpyF,List.length_cons,es_nil,List.length_nil,List.nil_append,List.cons_append]at key
 rw[den_fn t81 _ _ _ rfl]
 simp only[b81]
 simp (maxSteps:=6000000) (disch:=first|omega|assumption|decide +kernel|(simp;done)|(simp;omega)|fail) [run_drawnK,hw,appD_full_nil,key,k0]
set_option maxHeartbeats 2000000 in
theorem e_Copy01_1(t:CTrap)(hs:ShortT t)(ho:t.opn.length<1000000)(hwl:t.words.length<1000000)(he: ∀l,l∈t.opn→l.length<1000000)(hw:t.words≠[])(loc:Ab.Loc)(s:Stk)(lab:Nat)(k0:loc.get lab=none)(k1:loc.get (lab+1000)=none):
 den T 81 [.agg (vT t)] lab (loc::s)=some (.agg [i64 t.chambers,i64 t.times, .sl (.own s.length lab) 1 (es cInts t.opn), .sl (.own s.length (lab+1000)) 4 (es cWord t.words)],(loc.put lab (.tok t.opn.length)).put (lab+1000) (.tok t.words.length)::s):=by
 have key:=e_Copy_l1 t hs ho he hw (loc::s)
 simp only[cpyF,List.length_cons,es_nil,List.length_nil,List.nil_append,List.cons_append]at key
 have hne:es cWord t.words≠[]:=by simpa using hw
 rw[den_fn t81 _ _ _ rfl]
 simp only[b81]
 simp (maxSteps:=6000000) (disch:=first|omega|assumption|decide +kernel|(simp;done)|(simp;omega)|fail) [run_drawnK,hne,appD_full,key,k0,k1]
end Go.Proofs.YthghcainodgnkaaGreat

/-
  Watch: the reference's Told, Judge.
-/
namespace Go.Proofs.YthghcainodgnkaaGreat
open Go.Ab
@[simp] theorem frzE_tok(l e loc r n):frzE l e loc r (some (.tok n))=(e,loc::r):=rfl
structure CopyT(t:CTrap):Prop where
 opn:t.opn.length<1000000
 words:t.words.length<1000000
 each: ∀l,l∈t.opn→l.length<1000000
theorem CopyT.short {t:CTrap}(h:CopyT t):ShortT t:=⟨by have:=h.opn;omega,by have:=h.words;omega,fun l hl=>by have:=h.each l hl;omega⟩
theorem trapB_copy {t:CTrap}(h:trapB t=true):CopyT t:=by
 have hok:=trapB_ok h
 have h1:=hok.opn
 have h2:=hok.tt
 have h3:=hok.words
 refine⟨by omega,by omega,fun l hl=> ?_⟩
 obtain⟨h1,h2⟩:=rising_iff.1 (trapB_rise h hl)
 have hc:=hok.cc
 have:=pair_lenL (lo:=0) (n:=4) h1 fun x hx=>by have:=h2 x hx;omega
 omega
end Go.Proofs.YthghcainodgnkaaGreat

/-
  Watch: the reference's Judge, Known.
-/
namespace Go.Proofs.YthghcainodgnkaaGreat
open Go.Ab
end Go.Proofs.YthghcainodgnkaaGreat

/-
  Watch: the reference's Without, Known.
-/
namespace Go.Proofs.YthghcainodgnkaaGreat
open Go.Ab
end Go.Proofs.YthghcainodgnkaaGreat

/-
  Watch: the reference's small functions; CanBe.
-/
namespace Go.Proofs.YthghcainodgnkaaGreat
open Go.Ab
abbrev vB(b:WBook):List V:=[i64 b.trap.chambers,i64 b.trap.times, .sl .no 1 (es cInts b.trap.opn), .sl .no 4 (es cWord b.trap.words),i64 b.drunk,i64 b.run, .sl .no 1 (es cInt b.sober)]
structure CopyB(b:WBook):Prop where
 trap:CopyT b.trap
 sober:b.sober.length<1000000
theorem e_hull11(x y:CSp)(lab s):den T 105 [.agg [i64 x.lo,i64 x.hi], .agg [i64 y.lo,i64 y.hi]] lab s=some (.agg [i64 (hullS x y).lo,i64 (hullS x y).hi],s):=by
 obtain⟨x1,x2⟩:=x
 obtain⟨y1,y2⟩:=y
 unfold hullS
 rw[den_fn t105 _ _ _ rfl]
 simp only[b105]
 simp (disch:=first|omega|assumption|decide +kernel|(simp;done)|(simp;omega)|fail) []
theorem e_IsTime11(b:WBook)(hm:Mid b.trap)(i:Int)(lab s):den T 60 [.agg (vB b),i64 i] lab s=some (.bool (wiB i 0 (b.trap.times-1)),s):=by
 have h:=fun lab s=>e_isTime01 b.trap hm i lab s
 rw[den_fn t60 _ _ _ rfl]
 simp only[b60]
 simp (disch:=first|omega|assumption|decide +kernel|(simp;done)|(simp;omega)|fail) [h]
def bookB(b:WBook):Bool:=trapB b.trap&&(wiB b.drunk 0 5&&(wiB b.run 0 5&&rising b.sober 0 (b.trap.times-1)))
theorem e_Check11(b:WBook)(hc:CopyB b)(lab s):den T 40 [.agg (vB b)] lab s=some (i64 (if bookB b=true then 0 else 110),s):=by
 have h:=fun lab s=>e_Check01 b.trap hc.trap.short lab s
 have h1:=hc.sober
 unfold bookB
 rw[den_fn t40 _ _ _ rfl]
 simp only[b40]
 cases c1:trapB b.trap
 ·simp (maxSteps:=1000000) (disch:=first|omega|assumption|decide +kernel|(simp;done)|(simp;omega)|fail) [h,c1]
 have hok:=(trapB_ok c1).tt
 have w1:IntKind.i64.wrap (b.trap.times-1)=b.trap.times-1:=wi _ (by omega) (by omega)
 cases c2:wiB b.drunk 0 5
 ·simp (maxSteps:=1000000) (disch:=first|omega|assumption|decide +kernel|(simp;done)|(simp;omega)|fail) [h,c1,c2]
 cases c3:wiB b.run 0 5
 ·simp (maxSteps:=1000000) (disch:=first|omega|assumption|decide +kernel|(simp;done)|(simp;omega)|fail) [h,c1,c2,c3]
 cases c4:rising b.sober 0 (b.trap.times-1)<;>simp (maxSteps:=1000000) (disch:=first|omega|assumption|decide +kernel|(simp;done)|(simp;omega)|fail) [h,c1,c2,c3,c4,w1]
def ask11(b:WBook)(is:Bool):Int:=if bookB b=true then(if is=true then 0 else 1)else 110
theorem e_ask11(b:WBook)(hc:CopyB b)(is:Bool)(lab s):den T 128 [.agg (vB b), .bool is] lab s=some (i64 (ask11 b is),s):=by
 have h:=fun lab s=>e_Check11 b hc lab s
 unfold ask11
 rw[den_fn t128 _ _ _ rfl]
 simp only[b128]
 cases c:bookB b<;>cases is<;>simp (maxSteps:=1000000) (disch:=first|omega|assumption|decide +kernel|(simp;done)|(simp;omega)|fail) [h,c]
def cntL(l:List Int):Nat→Nat
 |0=>0
 |k+1=>runAt l k
theorem runAt_cnt(l:List Int)(k:Nat):runAt l k=if l.contains (k:Int)=true then cntL l k+1 else 0:=by
 cases k with
 |zero=>simp[runAt,cntL]
 |succ k=>simp only[runAt,cntL];rfl
theorem cntL_le(l:List Int): ∀k,cntL l k≤k
 |0=>Nat.le_refl _
 |k+1=>by
   have:=cntL_le l k
   rw[cntL,runAt_cnt]
   split<;>omega
def canP(b:WBook)(l:List Int)(k:Nat):Bool:= !has l k||(decide ((runAt l k:Int)≤b.run)&& !has b.sober k)
theorem has_contains(l:List Int)(k:Nat):has l k=l.contains (k:Int):=by
 rw[Bool.eq_iff_iff]
 simp only[has,anyB,List.any_eq_true,decide_eq_true_eq,List.contains_eq_mem]
 exact⟨fun⟨y,h1,h2⟩=>h2▸h1,fun h=>⟨_,h,rfl⟩⟩
set_option maxHeartbeats 1000000 in
theorem e_CanBe_l(b:WBook)(hc:CopyB b)(hm:Mid b.trap)(hT:b.trap.times≤1000)(l:List Int)(hl:l.length<1000000)(s:Stk):
 Run T b59l0 [(1, .sl .no 1 (es cInt l)),(2, .ptr s.length 32 0),(5,i64 0),(6,i64 0)] ([(32, .cell (vB b))]::s)=
  if allB (canP b l) (List.range b.T)=true then some (.exit 0,[(1, .sl .no 1 (es cInt l)),(2, .ptr s.length 32 0),(5,i64 (cntL l b.T:Nat)),(6,i64 b.T),(25, .bool false)],[(32, .cell (vB b))]::s)else some (.ret,[(4, .bool false)],[(32, .cell (vB b))]::s):=by
 have e2:b.T=b.trap.times.toNat:=rfl
 have hsl:=hc.sober
 refine loop_all (T:=T) (b:=d59l0) (List.range b.T) (canP b l) (fun k=>[(1, .sl .no 1 (es cInt l)),(2, .ptr s.length 32 0),(5,i64 (cntL l k:Nat)),(6,i64 (k:Nat))]) (fun _=>[(32, .cell (vB b))]::s) _ _ (by simp) (by simp) ?_ ?_ _ _ (by simp[cntL]) (by simp)
 ·intro k hk
  simp only[List.length_range]at hk
  simp only[List.getElem_range]
  have hk2:(k:Int)<b.trap.times:=by omega
  have hcn:=cntL_le l k
  have ec:cntL l (k+1)=if has l k=true then cntL l k+1 else 0:=by rw[has_contains,←runAt_cnt];rfl
  have er:runAt l k=if has l k=true then cntL l k+1 else 0:=by rw[has_contains,←runAt_cnt]
  have w1:IntKind.i64.wrap ((cntL l k:Int)+1)=(cntL l k:Int)+1:=wi _ (by omega) (by omega)
  have hk9:k<1000:=by omega
  rw[ec]
  unfold canP
  rw[er]
  clear ec er e2
  generalize cntL l k=n at*
  have i1: ∀lab s,den T 46 [.sl .no 1 (es cInt l),i64 k] lab s=some (.bool (has l k),s):=fun lab s=>e_In l k (by omega) lab s
  have i2: ∀lab s,den T 46 [.sl .no 1 (es cInt b.sober),i64 k] lab s=some (.bool (has b.sober k),s):=fun lab s=>e_In b.sober k (by omega) lab s
  generalize has b.sober k=h2 at*
  cases h1:has l k
  ·rw[h1]at i1
   simp (maxSteps:=1000000) (disch:=first|omega|assumption|decide +kernel|(simp;done)|(simp;omega)|fail) [hk2,i1,i2,-e_In,wk k (by omega)]
  ·rw[h1]at i1
   by_cases hr:(n:Int)+1≤b.run
   ·have hr2: ¬b.run<(n:Int)+1:=by omega
    cases h2<;>simp (maxSteps:=1000000) (disch:=first|omega|assumption|decide +kernel|(simp;done)|(simp;omega)|fail) [hk2,i1,i2,-e_In,w1,hr,hr2,wk k (by omega)]
   ·have hr2:b.run<(n:Int)+1:=by omega
    simp (maxSteps:=1000000) (disch:=first|omega|assumption|decide +kernel|(simp;done)|(simp;omega)|fail) [hk2,i1,i2,-e_In,w1,hr,hr2,wk k (by omega)]
 ·have hz: ¬((b.T:Nat):Int)<b.trap.times:=by omega
  simp only[List.length_range]
  generalize b.T=n at*
  simp (disch:=first|omega|assumption|decide +kernel|(simp;done)|(simp;omega)|fail) [hz]
end Go.Proofs.YthghcainodgnkaaGreat

/-
  Watch: the reference's CanBe, whole.
-/
namespace Go.Proofs.YthghcainodgnkaaGreat
open Go.Ab
def canR(b:WBook)(l:List Int):Bool:=rising l 0 (b.trap.times-1)&&canB b l
theorem canR_eq(b:WBook)(hT:0≤b.trap.times)(l:List Int):canR b l=(rising l 0 (b.trap.times-1)&&(decide ((l.length:Int)≤b.drunk)&&allB (canP b l) (List.range b.T))):=by
 unfold canR
 cases hr:rising l 0 (b.trap.times-1)
 ·rfl
 have h2:=(rising_iff.1 hr).2
 have e2:b.T=b.trap.times.toNat:=rfl
 rw[Bool.true_and,Bool.true_and,Bool.eq_iff_iff]
 unfold canB canP
 simp only[Bool.and_eq_true,List.all_eq_true,allB,Bool.or_eq_true,Bool.not_eq_true',List.mem_range,decide_eq_true_eq,has_contains]
 constructor
 ·rintro⟨a,h⟩
  refine⟨a,fun k hk=> ?_⟩
  cases hx:l.contains (k:Int)
  ·exact .inl rfl
  ·have:=h (k:Int) (by simpa using hx)
   simp only[Int.toNat_natCast]at this
   exact .inr this
 ·rintro⟨a,h⟩
  refine⟨a,fun n hn=> ?_⟩
  have hb:=h2 n hn
  have:=h n.toNat (by omega)
  rw[show((n.toNat:Nat):Int)=n by omega]at this
  rcases this with this|this
  ·have hm:l.contains n=true:=by simpa using hn
   rw[hm]at this;cases this
  ·exact this
set_option maxHeartbeats 1000000 in
theorem e_CanBe(b:WBook)(hc:CopyB b)(hT:0≤b.trap.times∧b.trap.times≤1000)(hm:Mid b.trap)(l:List Int)(hl:l.length<1000000)(lab s):den T 59 [.agg (vB b), .sl .no 1 (es cInt l)] lab s=some (.bool (canR b l),s):=by
 have h:=e_CanBe_l b hc hm hT.2 l hl s
 have w1:IntKind.i64.wrap (b.trap.times-1)=b.trap.times-1:=wi _ (by omega) (by omega)
 rw[canR_eq b hT.1]
 rw[den_fn t59 _ _ _ rfl]
 simp only[b59]
 cases c1:rising l 0 (b.trap.times-1)
 ·simp (maxSteps:=1000000) (disch:=first|omega|assumption|decide +kernel|(simp;done)|(simp;omega)|fail) [c1,w1]
 by_cases c2:(l.length:Int)≤b.drunk
 ·have c3: ¬b.drunk<l.length:=by omega
  cases c4:allB (canP b l) (List.range b.T)
  ·rw[c4,if_neg (by simp)]at h
   simp (maxSteps:=1000000) (disch:=first|omega|assumption|decide +kernel|(simp;done)|(simp;omega)|fail) [c1,c2,c3,w1,h]
  ·rw[c4,if_pos rfl]at h
   generalize cntL l b.T=m at*
   generalize b.T=n at*
   simp (maxSteps:=1000000) (disch:=first|omega|assumption|decide +kernel|(simp;done)|(simp;omega)|fail) [c1,c2,c3,w1,h]
 ·have c3:b.drunk<l.length:=by omega
  simp (maxSteps:=1000000) (disch:=first|omega|assumption|decide +kernel|(simp;done)|(simp;omega)|fail) [c1,c2,c3,w1]
end Go.Proofs.YthghcainodgnkaaGreat

/-
  Watch: the reference's TrapOf, IsStory (not built yet).
-/
namespace Go.Proofs.YthghcainodgnkaaGreat
open Go.Ab
def trpF(b:WBook)(d:Nat)(wE:Ab.Loc)(a:List CWord):Ab.Loc:=
 (32, .cell (vB b))::(64, .cell [i64 0,i64 0, .sl .full 1 [], .sl .full 4 []])::(144, .tok b.trap.opn.length)::(wE ++[(80, .cell [i64 b.trap.chambers,i64 b.trap.times, .sl (.own d 144) 1 (es cInts b.trap.opn), .sl (.own d 85) 4 (es cWord a)]),(85, .tok a.length)])
def soberW(l:List Int)(w:CWord):Bool:= !anyB (fun x=>decide (x=w.time)) l
def pickW(l:List Int)(a:List CWord)(w:CWord):List CWord:=if soberW l w=true then a ++[w]else a
theorem pickW_fold(l:List Int): ∀(ws a:List CWord),ws.foldl (pickW l) a=a ++ws.filter (soberW l)
 |[],a=>by simp
 |w::ws,a=>by
   rw[List.foldl_cons,pickW_fold l ws,List.filter_cons]
   unfold pickW
   by_cases h:soberW l w=true<;>simp[h]
theorem trapOf_pick(b:WBook)(l:List Int):trapOf b l= {b.trap with words:=b.trap.words.filter (soberW l)}:=by
 unfold trapOf lessT
 congr 2
 funext w
 unfold soberW anyB
 congr 1
 rw[Bool.eq_iff_iff]
 simp only[List.contains_eq_mem,decide_eq_true_eq,List.any_eq_true]
 exact⟨fun h=>⟨_,h,rfl⟩,fun⟨y,h1,h2⟩=>h2▸h1⟩
set_option maxHeartbeats 2000000 in
theorem e_TrapOf_l0(b:WBook)(hc:CopyB b)(l:List Int)(hl:l.length<1000000)(s:Stk):
 Run T b68l0 [(1, .sl .no 1 (es cInt l)),(2, .ptr s.length 32 0),(4, .ptr s.length 64 0),(5, .ptr s.length 80 0),(6,i64 0)] (trpF b s.length [] []::s)=
  some (.exit 0,[(1, .sl .no 1 (es cInt l)),(2, .ptr s.length 32 0),(4, .ptr s.length 64 0),(5, .ptr s.length 80 0),(6,i64 b.trap.words.length),(16, .bool false)],trpF b s.length [] (b.trap.words.filter (soberW l))::s):=by
 have hw:=hc.trap.words
 have key:=loop_fold (T:=T) (live:=[1,2,4,5,6]) (keep:=[32,64,80,85,144,1144,2144,3144,4144,5144,6144,7144,8144]) (b:=d68l0) b.trap.words (fun k (a:List CWord)=>a.length≤k) (pickW l)
  (fun k _=>[(1, .sl .no 1 (es cInt l)),(2, .ptr s.length 32 0),(4, .ptr s.length 64 0),(5, .ptr s.length 80 0),(6,i64 (k:Nat))]) (fun _ a=>trpF b s.length [] a::s)
  (fun a=>(.exit 0,[(1, .sl .no 1 (es cInt l)),(2, .ptr s.length 32 0),(4, .ptr s.length 64 0),(5, .ptr s.length 80 0),(6,i64 b.trap.words.length),(16, .bool false)],trpF b s.length [] a::s))
  (by simp) ?_ ?_ ?_ [] (by simp) [(1, .sl .no 1 (es cInt l)),(2, .ptr s.length 32 0),(4, .ptr s.length 64 0),(5, .ptr s.length 80 0),(6,i64 0)] (trpF b s.length [] []::s) (by simp) (by simp[trpF])
 ·rw[pickW_fold,List.nil_append]at key
  exact key
 ·intro k a hk hi
  have hk2:(k:Int)<b.trap.words.length:=by omega
  have e0: ∀w:CWord,es cWord a ++[[i64 w.time,i64 w.chamber,i64 w.lo,i64 w.hi]]=es cWord (a ++[w]):=fun w=>by simp[es]
  have i1: ∀lab s,den T 46 [.sl .no 1 (es cInt l),i64 b.trap.words[k].time] lab s=some (.bool (!soberW l b.trap.words[k]),s):=fun lab s=>by rw[e_In l _ (by omega) lab s];simp[soberW]
  have e1:=e0 b.trap.words[k]
  unfold pickW
  cases h:soberW l b.trap.words[k]
  ·rw[h]at i1
   simp (maxSteps:=1000000) (disch:=first|omega|assumption|decide +kernel|(simp;done)|(simp;omega)|fail) [trpF,hk,hk2,i1,-e_In,h,wk k (by omega)]
  ·rw[h]at i1
   simp (maxSteps:=1000000) (disch:=first|omega|assumption|decide +kernel|(simp;done)|(simp;omega)|fail) [run_drawnK,trpF,hk,hk2,i1,-e_In,h,e1,appK_own1,wk k (by omega)]
 ·intro k a hk hi
  unfold pickW
  split<;>(try simp only[List.length_append,List.length_cons,List.length_nil])<;>omega
 ·intro a hi
  simp[trpF]
set_option maxHeartbeats 2000000 in
theorem e_TrapOf_l1(b:WBook)(hc:CopyB b)(l:List Int)(hl:l.length<1000000)(s:Stk):
 Run T b68l0 [(1, .sl .no 1 (es cInt l)),(2, .ptr s.length 32 0),(4, .ptr s.length 64 0),(5, .ptr s.length 80 0),(6,i64 0)] (trpF b s.length [(1144, .tok b.trap.words.length)] []::s)=
  some (.exit 0,[(1, .sl .no 1 (es cInt l)),(2, .ptr s.length 32 0),(4, .ptr s.length 64 0),(5, .ptr s.length 80 0),(6,i64 b.trap.words.length),(16, .bool false)],trpF b s.length [(1144, .tok b.trap.words.length)] (b.trap.words.filter (soberW l))::s):=by
 have hw:=hc.trap.words
 have key:=loop_fold (T:=T) (live:=[1,2,4,5,6]) (keep:=[32,64,80,85,144,1144,2144,3144,4144,5144,6144,7144,8144]) (b:=d68l0) b.trap.words (fun k (a:List CWord)=>a.length≤k) (pickW l)
  (fun k _=>[(1, .sl .no 1 (es cInt l)),(2, .ptr s.length 32 0),(4, .ptr s.length 64 0),(5, .ptr s.length 80 0),(6,i64 (k:Nat))]) (fun _ a=>trpF b s.length [(1144, .tok b.trap.words.length)] a::s)
  (fun a=>(.exit 0,[(1, .sl .no 1 (es cInt l)),(2, .ptr s.length 32 0),(4, .ptr s.length 64 0),(5, .ptr s.length 80 0),(6,i64 b.trap.words.length),(16, .bool false)],trpF b s.length [(1144, .tok b.trap.words.length)] a::s))
  (by simp) ?_ ?_ ?_ [] (by simp) [(1, .sl .no 1 (es cInt l)),(2, .ptr s.length 32 0),(4, .ptr s.length 64 0),(5, .ptr s.length 80 0),(6,i64 0)] (trpF b s.length [(1144, .tok b.trap.words.length)] []::s) (by simp) (by simp[trpF])
 ·rw[pickW_fold,List.nil_append]at key
  exact key
 ·intro k a hk hi
  have hk2:(k:Int)<b.trap.words.length:=by omega
  have e0: ∀w:CWord,es cWord a ++[[i64 w.time,i64 w.chamber,i64 w.lo,i64 w.hi]]=es cWord (a ++[w]):=fun w=>by simp[es]
  have i1: ∀lab s,den T 46 [.sl .no 1 (es cInt l),i64 b.trap.words[k].time] lab s=some (.bool (!soberW l b.trap.words[k]),s):=fun lab s=>by rw[e_In l _ (by omega) lab s];simp[soberW]
  have e1:=e0 b.trap.words[k]
  unfold pickW
  cases h:soberW l b.trap.words[k]
  ·rw[h]at i1
   simp (maxSteps:=1000000) (disch:=first|omega|assumption|decide +kernel|(simp;done)|(simp;omega)|fail) [trpF,hk,hk2,i1,-e_In,h,wk k (by omega)]
  ·rw[h]at i1
   simp (maxSteps:=1000000) (disch:=first|omega|assumption|decide +kernel|(simp;done)|(simp;omega)|fail) [run_drawnK,trpF,hk,hk2,i1,-e_In,h,e1,appK_own1,wk k (by omega)]
 ·intro k a hk hi
  unfold pickW
  split<;>(try simp only[List.length_append,List.length_cons,List.length_nil])<;>omega
 ·intro a hi
  simp[trpF]
set_option maxHeartbeats 2000000 in
theorem e_TrapOf(b:WBook)(hc:CopyB b)(l:List Int)(hl:l.length<1000000)(lab s):den T 68 [.agg (vB b), .sl .no 1 (es cInt l)] lab s=some (.agg (vT (trapOf b l)),s):=by
 obtain⟨h1,h2,h3⟩:=hc.trap
 have hs:=hc.trap.short
 rw[trapOf_pick]
 by_cases hw:b.trap.words=[]
 ·have hC:=fun(loc:Ab.Loc) lab k0=>e_Copy01_0 b.trap hs h1 h3 hw loc s lab k0
  have hl0:=e_TrapOf_l0 b hc l hl s
  simp only[trpF,es_nil,List.nil_append,List.length_nil]at hl0
  rw[den_fn t68 _ _ _ rfl]
  simp only[b68]
  simp (maxSteps:=6000000) (disch:=first|omega|assumption|decide +kernel|(simp;done)|(simp;omega)|fail) [hC,hl0]
 ·have hC:=fun(loc:Ab.Loc) lab k0 k1=>e_Copy01_1 b.trap hs h1 h2 h3 hw loc s lab k0 k1
  have hl1:=e_TrapOf_l1 b hc l hl s
  simp only[trpF,es_nil,List.nil_append,List.length_nil,List.cons_append]at hl1
  rw[den_fn t68 _ _ _ rfl]
  simp only[b68]
  simp (maxSteps:=6000000) (disch:=first|omega|assumption|decide +kernel|(simp;done)|(simp;omega)|fail) [hC,hl1]
end Go.Proofs.YthghcainodgnkaaGreat

/-
  Watch: the reference's lists.
-/
namespace Go.Proofs.YthghcainodgnkaaGreat
open Go.Ab
theorem appK_full_e {α:Type} {c:α→List V} {esz bytes lab:Nat} {s:Stk} {c':Cap} {z':Nat} {a:List α}(h:a=[]):appK esz bytes lab s (.sl .full esz []) (.sl c' z' (es c a))=some (.sl .full esz (es c a),s):=by
 subst h;rw[show es c ([]:List α)=[]from rfl];exact appK_full_nil _ _ _ _ _ _ _ _ (by simp) (by simp) (.inr rfl)
theorem foldl_flat {α β:Type}(g:α→List β): ∀(l:List α) (L:List β),l.foldl (fun L x=>L ++g x) L=L ++l.flatMap g
 |[],L=>by simp
 |x::l,L=>by rw[List.foldl_cons,foldl_flat g l,List.flatMap_cons,List.append_assoc]
theorem lists_succ(m:Nat)(f:List Int)(b:Nat):listsP (m+1) f b=(List.range (b-fromOf f)).foldl (fun L j=>L ++listsP m (f ++[((fromOf f+j:Nat):Int)]) b) []:=by
 rw[foldl_flat,listsP,List.range'_eq_map_range,List.flatMap_map];rfl
theorem pow8 {m:Nat}(h:m≤7):8^m≤2097152:=by
 have:8^m≤8^7:=Nat.pow_le_pow_right (by omega) h
 omega
set_option maxHeartbeats 4000000 in
theorem e_lists_l(b:Nat)(hb:b≤8)(m:Nat)(f:List Int)(hm:f.length+m+1≤8)(hI: ∀(n:Nat) (lab:Nat) (s:Stk),n<8→den T 86 [.sl .no 1 (es cInt (f ++[(n:Int)])),i64 ((f.length:Int)+m+1),i64 b] lab s=some (.sl .no 1 (es cInts (listsP m (f ++[(n:Int)]) b)),s))(s:Stk):
 Run T b86l0 [(8, .sl (.own s.length 129) 1 []),(0, .sl .no 1 (es cInt f)),(1,i64 ((f.length:Int)+m+1)),(2,i64 b),(8, .sl .full 1 []),(9,i64 (fromOf f:Nat))] ([(129, .tok 0)]::s)=some (.exit 0,[(0, .sl .no 1 (es cInt f)),(1,i64 ((f.length:Int)+m+1)),(2,i64 b),(8, .sl (.own s.length 129) 1 (es cInts ((List.range (b-fromOf f)).foldl (fun L j=>L ++listsP m (f ++[((fromOf f+j:Nat):Int)]) b) []))),(9,i64 ((fromOf f:Int)+((List.range (b-fromOf f)).length:Nat))),(29, .bool false)],[(129, .tok ((List.range (b-fromOf f)).foldl (fun L j=>L ++listsP m (f ++[((fromOf f+j:Nat):Int)]) b) []).length)]::s):=by
 have key:=loop_fold (T:=T) (live:=[0,1,2,8,9]) (keep:=[129,240]) (b:=d86l0) (List.range (b-fromOf f)) (fun k L=>L.length≤k*2097152) (fun L j=>L ++listsP m (f ++[((fromOf f+j:Nat):Int)]) b) (fun k (a:List (List Int))=>[(0, .sl .no 1 (es cInt f)),(1,i64 ((f.length:Int)+m+1)),(2,i64 b),(8, .sl (.own s.length 129) 1 (es cInts a)),(9,i64 ((fromOf f:Int)+(k:Nat)))]) (fun k (a:List (List Int))=>[(129, .tok a.length)]::s) (fun(a:List (List Int))=>(.exit 0,[(0, .sl .no 1 (es cInt f)),(1,i64 ((f.length:Int)+m+1)),(2,i64 b),(8, .sl (.own s.length 129) 1 (es cInts a)),(9,i64 ((fromOf f:Int)+((List.range (b-fromOf f)).length:Nat))),(29, .bool false)],[(129, .tok a.length)]::s)) (by simp) ?_ ?_ ?_ [] (by simp) [(8, .sl (.own s.length 129) 1 []),(0, .sl .no 1 (es cInt f)),(1,i64 ((f.length:Int)+m+1)),(2,i64 b),(8, .sl .full 1 []),(9,i64 (fromOf f:Nat))] ([(129, .tok 0)]::s) (by simp) (by simp)
 ·exact key
 ·intro k a hk hi
  try simp only[List.length_range]at hk
  try simp only[List.getElem_range]
  have hk2:(fromOf f:Int)+k<b:=by omega
  have w1:IntKind.i64.wrap ((fromOf f:Int)+k+1)=(fromOf f:Int)+((k:Int)+1):=by rw[wi _ (by omega) (by omega)];omega
  have hL:=lists_len hb m (f ++[((fromOf f+k:Nat):Int)])
  have hp:=pow8 (m:=m) (by omega)
  have hI2:=fun lab s=>hI (fromOf f+k) lab s (by omega)
  simp only[Int.natCast_add]at hI2 hL⊢
  generalize hx:(fromOf f:Int)+k=x at hk2 w1 hI2 hL⊢
  generalize listsP m (f ++[x]) b=Q at hI2 hL⊢
  have b1:(a.length+Q.length)*24≤140737488355328:=by omega
  have b2:a.length+Q.length<140737488355328:=by omega
  have f1: ¬(140737488355328:Int)<f.length*8:=by omega
  have f2: ¬(140737488355328:Int)≤f.length:=by omega
  have ew:(fromOf f:Int)+((k+1:Nat):Int)=(fromOf f:Int)+((k:Int)+1):=by omega
  by_cases h0:f=[]
  ·simp (maxSteps:=1000000) (disch:=first|omega|assumption|decide +kernel|(simp;done)|(simp;omega)|fail) [hx,hk2,w1,hI2,appK_full_e h0,appK_full,appK_own,b1,b2,f1,f2,ew]
  ·simp (maxSteps:=1000000) (disch:=first|omega|assumption|decide +kernel|(simp;done)|(simp;omega)|fail) [hx,hk2,w1,hI2,h0,appK_full,appK_own1,appK_own,b1,b2,f1,f2,ew]
 ·intro k a hk hi
  try simp only[List.length_range]at hk
  try simp only[List.getElem_range]
  have hL:=lists_len hb m (f ++[((fromOf f+k:Nat):Int)])
  have hp:=pow8 (m:=m) (by omega)
  simp only[List.length_append];omega
 ·intro a hi
  have w: ¬(fromOf f:Int)+((b-fromOf f:Nat):Int)<b:=by omega
  simp[w]
set_option maxHeartbeats 4000000 in
theorem e_lists(b:Nat)(hb:b≤8): ∀(m:Nat) (f:List Int),f.length+m≤8→(∀y∈f,0≤y∧y<8)→ ∀(lab:Nat) (s:Stk),
 den T 86 [.sl .no 1 (es cInt f),i64 ((f.length:Int)+m),i64 b] lab s=some (.sl .no 1 (es cInts (listsP m f b)),s)
 |0,f,_,_=>fun lab s=>by
   rw[den_fn t86 _ _ _ rfl]
   simp only[b86]
   simp[listsP,es]
 |m+1,f,hm,hf=>fun lab s=>by
   have hI: ∀(n:Nat) (lab:Nat) (s:Stk),n<8→den T 86 [.sl .no 1 (es cInt (f ++[(n:Int)])),i64 ((f.length:Int)+m+1),i64 b] lab s=some (.sl .no 1 (es cInts (listsP m (f ++[(n:Int)]) b)),s):=fun n lab s hn=>by
    have:=e_lists b hb m (f ++[(n:Int)]) (by simp;omega) (fun y hy=>by
     rcases List.mem_append.1 hy with h|h
     ·exact hf y h
     ·simp only[List.mem_singleton]at h;omega) lab s
    have e2:(((f ++[(n:Int)]).length:Nat):Int)+m=(f.length:Int)+m+1:=by simp;omega
    rw[e2]at this
    exact this
   have hL:=e_lists_l b hb m f (by omega) hI s
   rw[←lists_succ]at hL
   have em:((m+1:Nat):Int)=(m:Int)+1:=by omega
   have e0:(f.length:Int)+((m:Int)+1)=(f.length:Int)+m+1:=by omega
   have e1: ¬(f.length:Int)=(f.length:Int)+m+1:=by omega
   rw[em,e0]
   rw[den_fn t86 _ _ _ rfl]
   simp only[b86]
   by_cases h0:f=[]
   ·subst h0
    have hfr:fromOf []=0:=rfl
    rw[hfr]at hL
    simp only[List.length_nil,Int.natCast_zero,Int.zero_add,es_nil]at hL e1⊢
    have e2: ¬(0:Int)=(m:Int)+1:=by omega
    simp (maxSteps:=1000000) (disch:=first|omega|assumption|decide +kernel|(simp;done)|(simp;omega)|fail) [hL,e2]
   ·have hl0:=List.length_pos_iff.2 h0
    have hlast:f.getLast? =some f[f.length-1]:=by rw[List.getLast?_eq_getElem?,List.getElem?_eq_getElem]
    have hb1:=hf f[f.length-1] (List.getElem_mem (by omega))
    have hfr:(fromOf f:Int)=f[f.length-1]+1:=by unfold fromOf;rw[hlast];dsimp only;omega
    have w1:IntKind.i64.wrap ((f.length:Int)-1)=(f.length:Int)-1:=wi _ (by omega) (by omega)
    have w2:IntKind.i64.wrap (f[f.length-1]+1)=(fromOf f:Int):=by rw[wi _ (by omega) (by omega),hfr]
    have t1:((f.length:Int)-1).toNat=f.length-1:=by omega
    have t2:0≤(f.length:Int)-1:=by omega
    have t3:0<(f.length:Int):=by omega
    have t4:f.length-1<f.length:=by omega
    have t5: ¬(f.length:Int)<1:=by omega
    simp (maxSteps:=1000000) (disch:=first|omega|assumption|decide +kernel|(simp;done)|(simp;omega)|fail) [hL,e1,w1,w2,t1,t2,t3,t4,t5,hl0]
end Go.Proofs.YthghcainodgnkaaGreat

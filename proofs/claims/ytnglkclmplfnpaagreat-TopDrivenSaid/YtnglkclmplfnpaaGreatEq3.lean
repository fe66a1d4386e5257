/-
  Doors: slices.Compact, slices.Sort.
-/
import Derived.Test.YtnglkclmplfnpaaGreatEq2
set_option linter.unusedSimpArgs false
set_option linter.unusedVariables false
namespace Go.Proofs.YtnglkclmplfnpaaGreat
open Go.Ab
theorem loop_next {live keep:List Nat} {b:AC} {e e1:Env} {s s1:Stk} {q}(h:Run T b (gcEnv live keep e s) (gcStk keep s)=some (.normal,e1,s1))(h2:Run T (.loop live keep b) e1 s1=q):Run T (.loop live keep b) e s=q:=by
 rw[run_loop,h,←h2];rfl
theorem loop_stop {live keep:List Nat} {b:AC} {e e1:Env} {s s1:Stk} {ex:Ex}(h:Run T b (gcEnv live keep e s) (gcStk keep s)=some (ex,e1,s1))(hx:ex≠ .normal):Run T (.loop live keep b) e s=some (ex,e1,s1):=by
 rw[run_loop,h];cases ex<;>first|rfl|exact absurd rfl hx
@[simp] theorem es_setI(l:List Int)(k:Nat)(x:Int):(es cInt l).set k [i64 x]=es cInt (l.set k x):=by simp[es,List.map_set]
theorem set0(m r:List Int)(p x:Int):(m ++p::r).set 0 x=x::((m ++[p]).tail ++r):=by cases m<;>simp
def cpG(L:List Int)(k0:Nat)(a:List Int×List Int)(j:Nat):List Int×List Int:=
 if L.getD (k0+j+1) 0=L.getD (k0+j) 0 then(a.1,a.2 ++[L.getD (k0+j) 0])else(a.1 ++[L.getD (k0+j+1) 0],(a.2 ++[L.getD (k0+j) 0]).tail)
theorem compact_l1(L:List Int)(N:Nat)(hN:L.length=N)(hN2:N<4611686018427387904)(k0:Nat)(hk0:k0<N)(d l:Nat)(X:List Int→Stk)(hd: ∀a,¬d=(X a).length)
 (hget: ∀a,sget (X a) d l=some (.arr 1 (es cInt a))) (hput: ∀a b,sput (X a) d l (.arr 1 (es cInt b))=X b):
 Run T b59l1 [(0, .asl d l 1 N 0 N),(3,i64 k0),(4, .asl d l 1 N k0 (N-k0)),(5,i64 1)] ([]::X L)=
  some (.exit 2,[(0, .asl d l 1 N 0 N),(3,i64 (((List.range (N-k0-1)).foldl (cpG L k0) (L.take k0,[])).1.length:Nat)),(4, .asl d l 1 N k0 (N-k0)),(5,i64 ((N-k0-1:Nat)+1)),(32, .bool false)],[]::X (((List.range (N-k0-1)).foldl (cpG L k0) (L.take k0,[])).1 ++(((List.range (N-k0-1)).foldl (cpG L k0) (L.take k0,[])).2 ++L.drop (k0+(N-k0-1))))):=by
 have key:=loop_fold (T:=T) (live:=[0,3,4,5]) (keep:=[]) (b:=d59l1) (List.range (N-k0-1)) (fun j (a:List Int×List Int)=>a.1.length+a.2.length=k0+j) (cpG L k0)
  (fun j a=>[(0, .asl d l 1 N 0 N),(3,i64 (a.1.length:Nat)),(4, .asl d l 1 N k0 (N-k0)),(5,i64 ((j:Nat)+1))]) (fun j a=>[]::X (a.1 ++(a.2 ++L.drop (k0+j))))
  (fun a=>(.exit 2,[(0, .asl d l 1 N 0 N),(3,i64 (a.1.length:Nat)),(4, .asl d l 1 N k0 (N-k0)),(5,i64 ((N-k0-1:Nat)+1)),(32, .bool false)],[]::X (a.1 ++(a.2 ++L.drop (k0+(N-k0-1))))))
  (by simp) ?_ ?_ ?_ (L.take k0,[]) (by simp;omega) [(0, .asl d l 1 N 0 N),(3,i64 k0),(4, .asl d l 1 N k0 (N-k0)),(5,i64 1)] ([]::X L) ?_ (by simp)
 ·exact key
 ·intro j a hj hi
  simp only[List.length_range]at hj
  simp only[List.getElem_range]
  have hj1:k0+j<L.length:=by omega
  have hj2:k0+j+1<L.length:=by omega
  have e1:L.drop (k0+j)=L[k0+j]::L[k0+j+1]::L.drop (k0+j+2):=by rw[List.drop_eq_getElem_cons hj1,List.drop_eq_getElem_cons hj2]
  have e2:L.drop (k0+(j+1))=L[k0+j+1]::L.drop (k0+j+2):=by rw[show k0+(j+1)=k0+j+1 by omega,List.drop_eq_getElem_cons hj2]
  have g1:L.getD (k0+j+1) 0=L[k0+j+1]:=by simp[List.getD,hj2]
  have g2:L.getD (k0+j) 0=L[k0+j]:=by simp[List.getD,hj1]
  rw[e2]
  simp only[cpG,g1,g2,e1]
  obtain⟨pre,mid⟩:=a
  simp only at hi⊢
  generalize hx:L[k0+j+1]=x
  generalize hp:L[k0+j]=p
  have hr:(L.drop (k0+j+2)).length=N-(k0+j+2):=by simp[hN]
  generalize L.drop (k0+j+2)=r at hr
  obtain⟨A,hA⟩: ∃A,A=pre ++(mid ++p::x::r):=⟨_,rfl⟩
  have hAl:A.length=N:=by rw[hA];simp;omega
  have hAx:A[k0+(j+1)]? =some x:=by
   rw[hA,←List.append_assoc,List.getElem?_append_right (by simp;omega)]
   simp only[List.length_append]
   rw[show k0+(j+1)-(pre.length+mid.length)=1 by omega];rfl
  have hAp:A[k0+j]? =some p:=by
   rw[hA,←List.append_assoc,List.getElem?_append_right (by simp;omega)]
   simp only[List.length_append]
   rw[show k0+j-(pre.length+mid.length)=0 by omega];rfl
  have hlx:k0+(j+1)<A.length:=by omega
  have hlp:k0+j<A.length:=by omega
  have hAx':A[k0+(j+1)]=x:=by rw[List.getElem?_eq_getElem hlx]at hAx;simpa using hAx
  have hAp':A[k0+j]=p:=by rw[List.getElem?_eq_getElem hlp]at hAp;simpa using hAp
  have hset:A.set pre.length x=pre ++(x::((mid ++[p]).tail ++x::r)):=by
   rw[hA,List.set_append_right _ _ (by omega),Nat.sub_self,set0]
  have hpl:pre.length<N:=by omega
  have n1:((j:Int)+1).toNat=j+1:=by omega
  have n3:j+1<N-k0:=by omega
  have n4:j<N-k0:=by omega
  have n5:((j:Int)+1)<(N-k0:Nat):=by omega
  have n6:(0:Int)≤(j:Int)+1:=by omega
  have n8:(j:Int)<(N-k0:Nat):=by omega
  rw[←hA]
  by_cases c:x=p
  ·rw[if_pos c]
   simp (maxSteps:=1000000) (disch:=first|omega|assumption|decide +kernel|(simp;done)|(simp;omega)|fail) [run_drawnK,hd,hget,hAl,hAx',hAp',n1,n3,n4,n5,n6,n8,c,wi]
   rw[hA,c]
  ·rw[if_neg c]
   simp (maxSteps:=1000000) (disch:=first|omega|assumption|decide +kernel|(simp;done)|(simp;omega)|fail) [run_drawnK,hd,hget,hput,hset,hAl,hAx',hAp',hpl,n1,n3,n4,n5,n6,n8,c,wi]
 ·intro j a hj hi
  simp only[List.length_range]at hj
  simp only[List.getElem_range]
  unfold cpG
  split<;>simp<;>omega
 ·intro a hi
  simp only[List.length_range]at hi⊢
  obtain⟨A,hA⟩: ∃A,A=a.1 ++(a.2 ++L.drop (k0+(N-k0-1))):=⟨_,rfl⟩
  have hAl:A.length=N:=by rw[hA];simp;omega
  have n1: ¬((N-k0-1:Nat):Int)+1<(N-k0:Nat):=by omega
  rw[←hA]
  simp (maxSteps:=1000000) (disch:=first|omega|assumption|decide +kernel|(simp;done)|(simp;omega)|fail) [hd,hget,hAl,n1]
 ·have:min k0 L.length=k0:=by omega
  simp[hd,this]
theorem cp_inv(L:List Int)(hs:L.Pairwise (· ≤ ·))(k0:Nat)(h1:1≤k0)(hk:k0<L.length)(he:L[k0]=L[k0-1])(hp:(L.take k0).Pairwise (· < ·)): ∀j,(hj:k0+j<L.length)→
 ((List.range j).foldl (cpG L k0) (L.take k0,[])).1.Pairwise (· < ·)∧(∀y,y∈((List.range j).foldl (cpG L k0) (L.take k0,[])).1↔y∈L.take (k0+j+1))∧(∀y∈((List.range j).foldl (cpG L k0) (L.take k0,[])).1,y≤L[k0+j])
 |0,hj=>by
   refine⟨hp,fun y=> ?_,fun y hy=> ?_⟩
   ·simp only[List.range_zero,List.foldl_nil,Nat.add_zero,List.take_succ_eq_append_getElem hk,List.mem_append,List.mem_singleton]
    refine⟨Or.inl,fun h=>h.elim id fun h=> ?_⟩
    subst h
    rw[he]
    exact List.mem_take_iff_getElem.2 ⟨k0-1,by omega,rfl⟩
   ·simp only[List.range_zero,List.foldl_nil]at hy
    obtain⟨i,hi,rfl⟩:=List.mem_take_iff_getElem.1 hy
    simp only[Nat.add_zero]
    exact List.pairwise_iff_getElem.1 hs i k0 (by omega) hk (by omega)
 |j+1,hj=>by
   obtain⟨a1,a2,a3⟩:=cp_inv L hs k0 h1 hk he hp j (by omega)
   have hj':k0+j<L.length:=by omega
   have hj2:k0+j+1<L.length:=by omega
   have g1:L.getD (k0+j+1) 0=L[k0+j+1]:=by simp[List.getD,hj2]
   have g2:L.getD (k0+j) 0=L[k0+j]:=by simp[List.getD,hj']
   have hle:L[k0+j]≤L[k0+j+1]:=List.pairwise_iff_getElem.1 hs _ _ hj' hj2 (by omega)
   rw[List.range_succ,List.foldl_append]
   generalize (List.range j).foldl (cpG L k0) (L.take k0,[])=a at*
   simp only[List.foldl_cons,List.foldl_nil,cpG,g1,g2]
   have et:L.take (k0+(j+1)+1)=L.take (k0+j+1) ++[L[k0+j+1]]:=by rw[show k0+(j+1)+1=(k0+j+1)+1 by omega,List.take_succ_eq_append_getElem hj2]
   have ei:L[k0+(j+1)]=L[k0+j+1]:=rfl
   rw[ei]
   by_cases c:L[k0+j+1]=L[k0+j]
   ·rw[if_pos c]
    refine⟨a1,fun y=> ?_,fun y hy=>by have:=a3 y hy;omega⟩
    rw[et,List.mem_append,List.mem_singleton,a2]
    refine⟨Or.inl,fun h=>h.elim id fun h=> ?_⟩
    subst h
    rw[c]
    exact List.mem_take_iff_getElem.2 ⟨k0+j,by omega,rfl⟩
   ·rw[if_neg c]
    refine⟨List.pairwise_append.2 ⟨a1,List.pairwise_singleton _ _,fun y hy z hz=> ?_⟩,fun y=> ?_,fun y hy=> ?_⟩
    ·simp only[List.mem_singleton]at hz
     subst hz
     have:=a3 y hy;omega
    ·rw[et,List.mem_append,List.mem_append,a2]
    ·rcases List.mem_append.1 hy with h|h
     ·have:=a3 y h;omega
     ·simp only[List.mem_singleton]at h;omega
theorem e_Compact_l0(L:List Int)(N:Nat)(hN:L.length=N)(hN2:N<4611686018427387904)(hs:L.Pairwise (· ≤ ·))(d l:Nat)(X:List Int→Stk)(hd: ∀a,¬d=(X a).length)
 (hget: ∀a,sget (X a) d l=some (.arr 1 (es cInt a))) (hput: ∀a b,sput (X a) d l (.arr 1 (es cInt b))=X b): ∀(m k:Nat),k+m=N→1≤k→(L.take k).Pairwise (· < ·)→
 ∃R A ex e,Run T b59l0 [(0, .asl d l 1 N 0 N),(3,i64 k)] ([]::X L)=some (ex,e,[]::X A)∧(ex= .ret∧e=[(2, .asl d l 1 N 0 R.length)]∨ex= .exit 0∧e=[(0, .asl d l 1 N 0 N),(3,i64 N),(13, .bool false)]∧R.length=N)∧
  A.length=N∧A.take R.length=R∧R.Pairwise (· < ·)∧ ∀y,y∈R↔y∈L
 |0,k,hm,h1,hp=>by
   have hk:k=N:=by omega
   subst hk
   refine⟨L,L, .exit 0,_,?_, .inr ⟨rfl,rfl,hN⟩,hN,by simp,by rw[←hN,List.take_length]at hp;exact hp,fun y=>Iff.rfl⟩
   refine loop_stop (ex:= .exit 0) ?_ (by simp)
   simp (maxSteps:=1000000) (disch:=first|omega|assumption|decide +kernel|(simp;done)|(simp;omega)|fail) [hd,hget,hN]
 |m+1,k,hm,h1,hp=>by
   have hk:k<L.length:=by omega
   have hk1:k-1<L.length:=by omega
   have hkN:k<N:=by omega
   have hkle:k≤N:=by omega
   have n1:((k:Int)-1).toNat=k-1:=by omega
   have n2:(0:Int)≤(k:Int)-1:=by omega
   have n3:(1:Int)≤(k:Int):=by omega
   have n4:(k:Int)-1<N:=by omega
   by_cases c:L[k]=L[k-1]
   ·have key:=compact_l1 L N hN hN2 k hkN d l X hd hget hput
    obtain⟨i1,i2,i3⟩:=cp_inv L hs k h1 hk c hp (N-k-1) (by omega)
    have hinv:((List.range (N-k-1)).foldl (cpG L k) (L.take k,[])).1.length+((List.range (N-k-1)).foldl (cpG L k) (L.take k,[])).2.length=k+(N-k-1):=by
     have: ∀j,((List.range j).foldl (cpG L k) (L.take k,[])).1.length+((List.range j).foldl (cpG L k) (L.take k,[])).2.length=k+j:=by
      intro j
      induction j with
      |zero=>simp;omega
      |succ j ih=>
        rw[List.range_succ,List.foldl_append]
        simp only[List.foldl_cons,List.foldl_nil]
        generalize (List.range j).foldl (cpG L k) (L.take k,[])=a at ih
        unfold cpG
        split<;>simp<;>omega
     exact this _
    rw[show k+(N-k-1)+1=N by omega,←hN,List.take_length,hN]at i2
    generalize (List.range (N-k-1)).foldl (cpG L k) (L.take k,[])=q at*
    obtain⟨R,mid⟩:=q
    simp only at key i1 i2 hinv
    have hRl:R.length<N:=by omega
    have hRl2:R.length≤N:=by omega
    have hRl3: ¬N-R.length=0:=by omega
    have hR0:0<R.length:=by
     refine List.length_pos_iff.2 fun h=> ?_
     have:=(i2 L[k]).2 (List.getElem_mem hk)
     rw[h]at this;simp at this
    obtain⟨B,hB⟩: ∃B,B=R ++(mid ++L.drop (k+(N-k-1))):=⟨_,rfl⟩
    have hBl:B.length=N:=by rw[hB];simp;omega
    have hBt:B.take R.length=R:=by rw[hB];simp
    rw[←hB]at key
    have hent:es cInt (List.take R.length B) ++(List.replicate (N-R.length) [i64 0] ++es cInt (List.drop N B))=es cInt (B.take R.length ++List.replicate (N-R.length) 0):=by
     rw[List.drop_eq_nil_of_le (by omega)]
     simp[es]
    have hel:(B.take R.length ++List.replicate (N-R.length) 0).length=N:=by simp;omega
    refine⟨R,B.take R.length ++List.replicate (N-R.length) 0, .ret,_,?_, .inl ⟨rfl,rfl⟩,by simp;omega,by rw[hBt];simp,i1,i2⟩
    refine loop_stop (ex:= .ret) ?_ (by simp)
    simp (maxSteps:=1000000) (disch:=first|omega|assumption|decide +kernel|(simp;done)|(simp;omega)|fail) [run_drawnK,hd,hget,hput,hN,hk,hk1,hkN,hkle,n1,n2,n3,n4,c,wi,key,hBl,hRl,hRl2,hRl3,hR0,hent,hel]
   ·have hlt:L[k-1]<L[k]:=by
     have:=List.pairwise_iff_getElem.1 hs (k-1) k hk1 hk (by omega)
     omega
    have hp2:(L.take (k+1)).Pairwise (· < ·):=by
     rw[List.take_succ_eq_append_getElem hk]
     refine List.pairwise_append.2 ⟨hp,List.pairwise_singleton _ _,fun y hy z hz=> ?_⟩
     simp only[List.mem_singleton]at hz
     subst hz
     obtain⟨i,hi,rfl⟩:=List.mem_take_iff_getElem.1 hy
     rcases Nat.lt_or_ge i (k-1)with h|h
     ·have:=List.pairwise_iff_getElem.1 hs i (k-1) (by omega) hk1 h
      omega
     ·have:i=k-1:=by omega
      subst this;exact hlt
    obtain⟨R,A,ex,e,q1,q2⟩:=e_Compact_l0 L N hN hN2 hs d l X hd hget hput m (k+1) (by omega) (by omega) hp2
    refine⟨R,A,ex,e,loop_next (e1:=[(0, .asl d l 1 N 0 N),(3,i64 (k+1:Nat))]) (s1:=[]::X L) ?_ q1,q2⟩
    simp (maxSteps:=1000000) (disch:=first|omega|assumption|decide +kernel|(simp;done)|(simp;omega)|fail) [run_drawnK,hd,hget,hN,hk,hk1,hkN,hkle,n1,n2,n3,n4,c,wi,wk k (by omega)]
theorem e_Compact(L:List Int)(N:Nat)(hN:L.length=N)(hN2:N<4611686018427387904)(h0:L≠[])(hs:L.Pairwise (· ≤ ·))(d l:Nat)(X:List Int→Stk)(hd: ∀a,¬d=(X a).length)
 (hget: ∀a,sget (X a) d l=some (.arr 1 (es cInt a))) (hput: ∀a b,sput (X a) d l (.arr 1 (es cInt b))=X b) (lab):
 ∃R A,den T 59 [.asl d l 1 N 0 N] lab (X L)=some (.asl d l 1 N 0 R.length,X A)∧A.length=N∧A.take R.length=R∧R.Pairwise (· < ·)∧ ∀y,y∈R↔y∈L:=by
 by_cases c:N<2
 ·refine⟨L,L,?_,hN,by simp,?_,fun y=>Iff.rfl⟩
  ·have c2:(N:Int)<2:=by omega
   rw[den_fn t59 _ _ _ rfl]
   simp only[b59]
   simp (maxSteps:=1000000) (disch:=first|omega|assumption|decide +kernel|(simp;done)|(simp;omega)|fail) [hd,hget,c,c2,hN]
  ·match L,h0 with
   |[x],_=>exact List.pairwise_singleton _ _
   |x::y::r,_=>simp at hN;omega
 ·have c2: ¬(N:Int)<2:=by omega
  obtain⟨R,A,ex,e,q1,q2,q3⟩:=e_Compact_l0 L N hN hN2 hs d l X hd hget hput (N-1) 1 (by omega) (by omega) (by
   match L,h0 with
   |x::r,_=>exact List.pairwise_singleton _ _)
  refine⟨R,A,?_,q3⟩
  change Run T _ [_,(3,i64 1)] _=_ at q1
  rw[den_fn t59 _ _ _ rfl]
  simp only[b59]
  rcases q2 with ⟨rfl,rfl⟩|⟨rfl,rfl,q4⟩
  ·simp (maxSteps:=1000000) (disch:=first|omega|assumption|decide +kernel|(simp;done)|(simp;omega)|fail) [hd,hget,c,c2,hN,q1]
  ·simp (maxSteps:=1000000) (disch:=first|omega|assumption|decide +kernel|(simp;done)|(simp;omega)|fail) [hd,hget,c,c2,hN,q1,q4]
theorem rowInts_es(l:List Int):rowInts (es cInt l)=some l:=rowInts_map l
theorem es_cell(l:List Int):l.map cellInt=es cInt l:=rfl
theorem e_Sort(F:List Int)(h0:F≠[])(hl:F.length<4611686018427387904)(d l:Nat)(s:Stk)(h:sget s d l=some (.arr 1 (es cInt F)))(lab):
 den T 58 [.asl d l 1 F.length 0 F.length] lab s=some (.tup [],sput s d l (.arr 1 (es cInt (sortedI F)))):=by
 rw[den_prim t58]
 have h1:es cInt F≠[]:=by simpa using h0
 simp[Go.Ab.sortP,h,h1,hl,rowInts_es,es_cell]
theorem sortedI_sorted(F:List Int):(sortedI F).Pairwise (· ≤ ·):=by
 have:=List.pairwise_mergeSort (le:=fun(x y:Int)=>decide (x≤y)) (fun a b c h1 h2=>by simp at*;omega) (fun a b=>by simp;omega) F
 exact this.imp (fun h=>by simpa using h)
theorem strict_eq: ∀(a b:List Int),a.Pairwise (· < ·)→b.Pairwise (· < ·)→(∀y,y∈a↔y∈b)→a=b
 |[],[],_,_,_=>rfl
 |[],y::b,_,_,h=>by have:=(h y).2 (by simp);simp at this
 |x::a,[],_,_,h=>by have:=(h x).1 (by simp);simp at this
 |x::a,y::b,ha,hb,h=>by
   obtain⟨ha1,ha2⟩:=List.pairwise_cons.1 ha
   obtain⟨hb1,hb2⟩:=List.pairwise_cons.1 hb
   have e:x=y:=by
    rcases List.mem_cons.1 ((h x).1 (by simp))with h1|h1
    ·exact h1
    ·rcases List.mem_cons.1 ((h y).2 (by simp))with h2|h2
     ·exact h2.symm
     ·have:=hb1 x h1;have:=ha1 y h2;omega
   subst e
   congr 1
   refine strict_eq a b ha2 hb2 fun z=>⟨fun hz=> ?_,fun hz=> ?_⟩
   ·rcases List.mem_cons.1 ((h z).1 (by simp[hz]))with h1|h1
    ·have:=ha1 z hz;omega
    ·exact h1
   ·rcases List.mem_cons.1 ((h z).2 (by simp[hz]))with h1|h1
    ·have:=hb1 z hz;omega
    ·exact h1
theorem es_takeI(l:List Int)(k:Nat):(es cInt l).take k=es cInt (l.take k):=by simp[es]
end Go.Proofs.YtnglkclmplfnpaaGreat

/-
  Doors: the ways of a group, by the program.
-/
namespace Go.Proofs.YtnglkclmplfnpaaGreat
open Go.Ab
def openS(o:Nat):Nat→List DGate→List DGate
 |_,[]=>[]
 |i,g::r=> {g with op:=o.testBit i}::openS o (i+1) r
abbrev openG(o:Nat)(gs:List DGate):List DGate:=openS o 0 gs
theorem openS_get(o:Nat): ∀(i:Nat) (gs:List DGate) (j:Nat),(openS o i gs)[j]? =(gs[j]?).map fun g=> {g with op:=o.testBit (i+j)}
 |_,[],j=>by simp[openS]
 |i,g::r,0=>by simp[openS]
 |i,g::r,j+1=>by
   simp only[openS,List.getElem?_cons_succ,openS_get o (i+1) r j]
   rw[show i+1+j=i+(j+1)by omega]
@[simp] theorem openS_length(o:Nat): ∀(i:Nat) (gs:List DGate),(openS o i gs).length=gs.length
 |_,[]=>rfl
 |i,g::r=>by simp[openS,openS_length o (i+1) r]
def wayAt(o:Nat)(p:Int)(gs:List DGate)(k:Nat):List Int:=
 match gs[k]? with
 |some g=>if lowN (shrN o k)=0 then []else if g.a=p then [g.b]else if g.b=p then [g.a]else []
 |none=>[]
def outW(o:Nat)(p:Int)(gs:List DGate):List Int:=(List.range gs.length).foldl (fun a k=>a ++wayAt o p gs k) []
theorem outW_flat(o p gs):outW o p gs=(List.range gs.length).flatMap (wayAt o p gs):=by
 have: ∀(l:List Nat) (a:List Int),l.foldl (fun a k=>a ++wayAt o p gs k) a=a ++l.flatMap (wayAt o p gs):=by
  intro l
  induction l with
  |nil=>intro a;simp
  |cons x r ih=>intro a;simp[ih]
 unfold outW
 rw[this];rfl
theorem wayAt_len(o p gs k):(wayAt o p gs k).length≤1:=by
 unfold wayAt
 split
 ·split
  ·simp
  ·split
   ·simp
   ·split<;>simp
 ·simp
theorem low_bit(o k:Nat):(lowN (shrN o k)=0)=(o.testBit k=false):=by
 unfold lowN shrN
 rw[Nat.testBit_eq_decide_div_mod_eq,Nat.shiftRight_eq_div_pow]
 have:=Nat.mod_lt (o/2^k) (show 2>0 by decide)
 simp only[decide_eq_false_iff_not,eq_iff_iff]
 omega
theorem mem_outW {o:Nat} {p c:Int} {gs:List DGate}:c∈outW o p gs↔wayB (openG o gs) p c=true:=by
 rw[outW_flat]
 simp only[List.mem_flatMap,List.mem_range,wayB,List.any_eq_true]
 constructor
 ·rintro⟨k,hk,hc⟩
  unfold wayAt at hc
  rw[List.getElem?_eq_getElem hk]at hc
  simp only[low_bit]at hc
  split at hc
  ·simp at hc
  ·rename_i ho
   refine⟨{gs[k]with op:=o.testBit k},List.mem_iff_getElem?.2 ⟨k,by rw[openS_get,List.getElem?_eq_getElem hk];simp⟩,?_⟩
   split at hc
   ·rename_i h1;simp at hc;subst hc;simp[ho,h1]
   ·split at hc
    ·rename_i h1;simp at hc;subst hc;simp[ho,h1]
    ·simp at hc
 ·rintro⟨g,hg,hc⟩
  obtain⟨k,hk⟩:=List.mem_iff_getElem?.1 hg
  rw[openS_get]at hk
  obtain⟨g0,h0,rfl⟩:=Option.map_eq_some_iff.1 hk
  have hlt:=(List.getElem?_eq_some_iff.1 h0).1
  simp only[Nat.zero_add,Bool.and_eq_true,Bool.or_eq_true,decide_eq_true_eq]at hc
  refine⟨k,hlt,?_⟩
  unfold wayAt
  rw[h0]
  simp only[low_bit,hc.1,Bool.true_eq_false,if_false]
  rcases hc.2 with ⟨h1,h2⟩|⟨h1,h2⟩
  ·simp[h1,h2]
  ·by_cases h3:g0.a=p
   ·rw[if_pos h3];simp;omega
   ·rw[if_neg h3];simp[h1,h2]
theorem outW_sorted {n:Nat} {o:Nat} {p:Int} {gs:List DGate}(hg: ∀g∈gs,(0≤g.a∧g.a≤(n:Int)-1)∧(0≤g.b∧g.b≤(n:Int)-1)) {R:List Int}(hs:R.Pairwise (· < ·))(hm: ∀y,y∈R↔y∈outW o p gs)(h0:outW o p gs≠[]):R=waysS n (openG o gs) p:=by
 have hne:(rangeI n).filter (wayB (openG o gs) p)≠[]:=by
  obtain⟨x,r,e⟩:=List.exists_cons_of_ne_nil h0
  have hx:x∈outW o p gs:=by rw[e];simp
  have:x∈(rangeI n).filter (wayB (openG o gs) p):=by
   refine List.mem_filter.2 ⟨mem_rangeI.2 ?_,mem_outW.1 hx⟩
   have:=mem_outW.1 hx
   simp only[wayB,List.any_eq_true]at this
   obtain⟨g,hg1,hg2⟩:=this
   obtain⟨k,hk⟩:=List.mem_iff_getElem?.1 hg1
   rw[openS_get]at hk
   obtain⟨g0,hg0,rfl⟩:=Option.map_eq_some_iff.1 hk
   have:=hg g0 (List.mem_of_getElem? hg0)
   simp only[Bool.and_eq_true,Bool.or_eq_true,decide_eq_true_eq]at hg2
   rcases hg2.2 with ⟨_,h2⟩|⟨_,h2⟩<;>omega
  intro h;rw[h]at this;simp at this
 have e:waysS n (openG o gs) p=(rangeI n).filter (wayB (openG o gs) p):=by simp[waysS,hne]
 rw[e]
 refine strict_eq _ _ hs ?_ fun y=> ?_
 ·refine List.Pairwise.filter _ ?_
  unfold rangeI
  rw[List.pairwise_map]
  exact List.pairwise_lt_range.imp fun h=>by omega
 ·rw[hm,List.mem_filter,mem_outW]
  constructor
  ·intro h
   refine⟨?_,h⟩
   have:=h
   simp only[wayB,List.any_eq_true]at this
   obtain⟨g,hg1,hg2⟩:=this
   obtain⟨k,hk⟩:=List.mem_iff_getElem?.1 hg1
   rw[openS_get]at hk
   obtain⟨g0,hg0,rfl⟩:=Option.map_eq_some_iff.1 hk
   have:=hg g0 (List.mem_of_getElem? hg0)
   simp only[Bool.and_eq_true,Bool.or_eq_true,decide_eq_true_eq]at hg2
   rw[mem_rangeI]
   rcases hg2.2 with ⟨_,h2⟩|⟨_,h2⟩<;>omega
  ·exact fun h=>h.2
theorem outW_none {n:Nat} {o:Nat} {p:Int} {gs:List DGate}(h0:outW o p gs=[]):waysS n (openG o gs) p=[p]:=by
 have:(rangeI n).filter (wayB (openG o gs) p)=[]:=by
  rw[List.filter_eq_nil_iff]
  intro x _ hx
  have:=mem_outW.2 hx
  rw[h0]at this;simp at this
 simp[waysS,this]
abbrev gcap:V→Cap
 | .csl _ _=> .full
 |_=> .no
abbrev gmp:V→V
 | .csl p _=> .mp p
 |m=>m
@[simp] theorem gcap_mp(p):gcap (.mp p)= .no:=rfl
@[simp] theorem gcap_nilp:gcap .nilp= .no:=rfl
@[simp] theorem gcap_csl(p n):gcap (.csl p n)= .full:=rfl
@[simp] theorem gmp_mp(p):gmp (.mp p)= .mp p:=rfl
@[simp] theorem gmp_nilp:gmp .nilp= .nilp:=rfl
@[simp] theorem gmp_csl(p n):gmp (.csl p n)= .mp p:=rfl
@[simp] theorem gcap_drop(m d keep):Cap.drop d keep (gcap m)=gcap m:=by cases m<;>rfl
abbrev gameV(t:DTrap)(C:List Int)(m:V):List V:=[i64 t.chambers,i64 t.turns,i64 t.hands, .sl .no 3 (es cGate t.gates), .sl (gcap m) 2 (es cGroup t.groups), .sl .no 1 (es cInt C),gmp m]
set_option maxHeartbeats 4000000 in
theorem e_ways_l(t:DTrap)(hl:t.gates.length≤5)(o:Nat)(ho:o<32)(p:Int)(g0:V)(e0:Env)(s:Stk):
 Run T b35l0 [(7, .asl s.length 113 1 0 0 0),(1,i64 (o:Nat)),(2,i64 p),(7, .sl .full 1 []),(14, .sl .no 3 (es cGate t.gates)),(15,i64 t.gates.length),(16,i64 0)] ([(113, .arr 1 [])]::s)=some (.exit 0,[(1,i64 (o:Nat)),(2,i64 p),(7, .asl s.length 113 1 (((List.range t.gates.length).foldl (fun(a:List Int) k=>a ++wayAt o p t.gates k) ([]:List Int))).length 0 (((List.range t.gates.length).foldl (fun(a:List Int) k=>a ++wayAt o p t.gates k) ([]:List Int))).length),(14, .sl .no 3 (es cGate t.gates)),(15,i64 t.gates.length),(16,i64 ((List.range t.gates.length).length:Nat)),(17, .bool false)],[(113, .arr 1 (es cInt ((List.range t.gates.length).foldl (fun(a:List Int) k=>a ++wayAt o p t.gates k) ([]:List Int))))]::s):=by
 have key:=loop_fold (T:=T) (live:=[1,2,7,14,15,16]) (keep:=[113,832,864,896]) (b:=d35l0) (List.range t.gates.length) (fun k (a:List Int)=>a.length≤k) (fun(a:List Int) k=>a ++wayAt o p t.gates k) (fun k (a:List Int)=>[(1,i64 (o:Nat)),(2,i64 p),(7, .asl s.length 113 1 (a).length 0 (a).length),(14, .sl .no 3 (es cGate t.gates)),(15,i64 t.gates.length),(16,i64 (k:Nat))]) (fun k (a:List Int)=>[(113, .arr 1 (es cInt a))]::s) (fun(a:List Int)=>(.exit 0,[(1,i64 (o:Nat)),(2,i64 p),(7, .asl s.length 113 1 (a).length 0 (a).length),(14, .sl .no 3 (es cGate t.gates)),(15,i64 t.gates.length),(16,i64 ((List.range t.gates.length).length:Nat)),(17, .bool false)],[(113, .arr 1 (es cInt a))]::s)) (by simp) ?_ ?_ ?_ ([]:List Int) (by simp) [(7, .asl s.length 113 1 0 0 0),(1,i64 (o:Nat)),(2,i64 p),(7, .sl .full 1 []),(14, .sl .no 3 (es cGate t.gates)),(15,i64 t.gates.length),(16,i64 0)] ([(113, .arr 1 [])]::s) (by simp) (by simp)
 ·exact key
 ·intro k a hk hi
  try simp only[List.length_range]at hk
  try simp only[List.getElem_range]
  have hk2:(k:Int)<t.gates.length:=by omega
  have hb1:=bshr (a:=o) (n:=k) (by omega)
  have hb2:=band (a:=shrN o k) (by have:=shr_le o k;omega)
  have hlow:=low_le (shrN o k)
  unfold wayAt
  rw[List.getElem?_eq_getElem hk]
  generalize hG:t.gates[k]=G at*
  generalize shrN o k=x at*
  generalize lowN x=y at*
  have ea: ∀x:Int,es cInt a ++[[i64 x]]=es cInt (a ++[x]):=fun x=>by simp[es]
  by_cases c1:y=0
  ·simp (maxSteps:=1000000) (disch:=first|omega|assumption|decide +kernel|(simp;done)|(simp;omega)|fail) [hk,hk2,hb1,hb2,hG,c1,wk k (by omega),-bin_shr,-bin_and]
  ·have c1': ¬(y:Int)=0:=by omega
   by_cases c2:G.a=p
   ·simp (maxSteps:=1000000) (disch:=first|omega|assumption|decide +kernel|(simp;done)|(simp;omega)|fail) [hk,hk2,hb1,hb2,hG,c1,c1',c2,ea,appA_one,wk k (by omega),-bin_shr,-bin_and]
   ·by_cases c3:G.b=p
    ·simp (maxSteps:=1000000) (disch:=first|omega|assumption|decide +kernel|(simp;done)|(simp;omega)|fail) [hk,hk2,hb1,hb2,hG,c1,c1',c2,c3,ea,appA_one,wk k (by omega),-bin_shr,-bin_and]
    ·simp (maxSteps:=1000000) (disch:=first|omega|assumption|decide +kernel|(simp;done)|(simp;omega)|fail) [hk,hk2,hb1,hb2,hG,c1,c1',c2,c3,wk k (by omega),-bin_shr,-bin_and]
 ·intro k a hk hi
  try simp only[List.length_range]at hk
  try simp only[List.getElem_range]
  have:=wayAt_len o p t.gates k
  simp only[List.length_append];omega
 ·intro a hi
  simp
theorem outW_len(o p gs):(outW o p gs).length≤gs.length:=by
 rw[outW_flat]
 have: ∀l:List Nat,(l.flatMap (wayAt o p gs)).length≤l.length:=by
  intro l
  induction l with
  |nil=>simp
  |cons x r ih=>
    have:=wayAt_len o p gs x
    simp only[List.flatMap_cons,List.length_append,List.length_cons];omega
 have:=this (List.range gs.length)
 simpa using this
set_option maxHeartbeats 4000000 in
theorem e_ways(t:DTrap)(hl:t.gates.length≤5)(hg: ∀g∈t.gates,(0≤g.a∧g.a≤t.chambers-1)∧(0≤g.b∧g.b≤t.chambers-1)∧g.a≠g.b)(C:List Int)(m:V)(o:Nat)(ho:o<32)(p:Int)(d l:Nat)(s:Stk)(hd:d<s.length)(h:sget s d l=some (.cell (gameV t C m)))(lab):
 den T 35 [.ptr d l 0,i64 (o:Nat),i64 p] lab s=some (.sl .no 1 (es cInt (waysS t.chambers.toNat (openG o t.gates) p)),s):=by
 have hd2: ¬d=s.length:=by omega
 have key:=e_ways_l t hl o ho p .nilp [] s
 change Run T _ _ _=some (_,[_,_,(7, .asl s.length 113 1 (outW o p t.gates).length 0 (outW o p t.gates).length),_,_,_,_],[(113, .arr 1 (es cInt (outW o p t.gates)))]::s)at key
 have hgn: ∀g∈t.gates,(0≤g.a∧g.a≤(t.chambers.toNat:Int)-1)∧(0≤g.b∧g.b≤(t.chambers.toNat:Int)-1):=fun g hm=>by have:=hg g hm;omega
 by_cases h0:outW o p t.gates=[]
 ·rw[outW_none h0,show es cInt [p]=[[i64 p]]from rfl]
  rw[h0]at key
  rw[den_fn t35 _ _ _ rfl]
  simp only[b35]
  simp (maxSteps:=1000000) (disch:=first|omega|assumption|decide +kernel|(simp;done)|(simp;omega)|fail) [h,hd2,key]
 ·have hlen:=outW_len o p t.gates
  have hS:=fun lab=>e_Sort (outW o p t.gates) h0 (by omega) s.length 113 ([(113, .arr 1 (es cInt (outW o p t.gates)))]::s) (by simp) lab
  have hsl:(sortedI (outW o p t.gates)).length=(outW o p t.gates).length:=List.length_mergeSort _
  obtain⟨R,A,hC,hA1,hA2,hA3,hA4⟩:=e_Compact (sortedI (outW o p t.gates)) (outW o p t.gates).length hsl (by omega) (by intro h;rw[h]at hsl;exact h0 (List.length_eq_zero_iff.1 hsl.symm)) (sortedI_sorted (outW o p t.gates)) s.length 113 (fun a=>[(113, .arr 1 (es cInt a))]::s) (fun a=>by simp) (fun a=>by simp) (fun a b=>by simp[Loc.put]) 896
  have hRe:R=waysS t.chambers.toNat (openG o t.gates) p:=outW_sorted hgn hA3 (fun y=>by rw[hA4,sortedI,List.mem_mergeSort]) h0
  rw[hRe]at hC hA2
  have hRle:(waysS t.chambers.toNat (openG o t.gates) p).length≤(outW o p t.gates).length:=by
   have:=congrArg List.length hA2
   rw[List.length_take,hA1]at this
   omega
  have hn0: ¬(outW o p t.gates).length=0:=fun e=>h0 (List.length_eq_zero_iff.1 e)
  generalize waysS t.chambers.toNat (openG o t.gates) p=W at*
  generalize outW o p t.gates=F at*
  rw[den_fn t35 _ _ _ rfl]
  simp only[b35]
  by_cases hq:W.length=F.length
  ·rw[hq]at hC hA2 hRle
   simp (maxSteps:=1000000) (disch:=first|omega|assumption|decide +kernel|(simp;done)|(simp;omega)|fail) [h,hd2,key,hS,hC,hA1,hA2,hn0,hq,es_takeI]
  ·simp (maxSteps:=1000000) (disch:=first|omega|assumption|decide +kernel|(simp;done)|(simp;omega)|fail) [h,hd2,key,hS,hC,hA1,hA2,hn0,hRle,hq,es_takeI]
end Go.Proofs.YtnglkclmplfnpaaGreat

/-
  Doors: the order of the changes (computed where no primitive is).
-/
namespace Go.Proofs.YtnglkclmplfnpaaGreat
open Go.Ab
theorem e0_isNaN(a:Int)(lab s):den T0 94 [i64 a] lab s=some (.bool false,s):=by
 rw[den_fn u94 _ _ _ rfl]
 simp[b94]
def cmpI(a b:Int):Int:=if a<b then -1 else if b<a then 1 else 0
theorem e0_Compare(a b:Int)(lab s):den T0 75 [i64 a,i64 b] lab s=some (i64 (cmpI a b),s):=by
 rw[den_fn u75 _ _ _ rfl]
 simp only[b75,cmpI]
 by_cases h:a<b
 ·simp (disch:=first|omega|assumption|decide +kernel|(simp;done)|(simp;omega)|fail) [h,e0_isNaN]
 ·by_cases h':b<a<;>simp (disch:=first|omega|assumption|decide +kernel|(simp;done)|(simp;omega)|fail) [h,h',e0_isNaN]
theorem e0_Or(a b:Int)(lab s):den T0 54 [.sl .no 1 [[i64 a],[i64 b]]] lab s=some (i64 (if a≠0 then a else b),s):=by
 have hl: ∀s:Stk,Run T0 b54l0 [(3,i64 0),(6, .sl .no 1 (es cInt [a,b])),(7,i64 2),(8,i64 0)] ([]::s)=
  some (foldS (fun(_:Unit) x=>if x≠0 then .inr (.ret,[(2,i64 x)],[]::s)else .inl ()) (fun _=>(.exit 0,[(3,i64 0),(6, .sl .no 1 (es cInt [a,b])),(7,i64 2),(8,i64 2),(9, .bool false)],[]::s)) [a,b] ()):=by
  intro s
  refine loop_list0 (T:=T0) [a,b] (fun k _=>[(3,i64 0),(6, .sl .no 1 (es cInt [a,b])),(7,i64 2),(8,i64 k)]) (fun _ _=>[]::s) _ _ ?_ ?_ (by simp) (by simp) () _ _ (by simp) (by simp)
  ·intro k _ hk
   have hk':k<2:=by simpa using hk
   have e:([a,b]:List Int)[k]? =some [a,b][k]:=by simp
   generalize hx:[a,b][k]=x at e
   have hk2:(k:Int)<2:=by omega
   by_cases h:x=0<;>simp (disch:=first|omega|assumption|decide +kernel|(simp;done)|(simp;omega)|fail) [hk',hk2,h,hx,wk k (by omega),nxt]
  ·intro _ x q h;split at h<;>simp at h;subst h;simp
 rw[den_fn u54 _ _ _ rfl]
 simp only[b54]
 have e2:([[i64 a],[i64 b]]:List (List V))=es cInt [a,b]:=rfl
 rw[e2]
 by_cases h:a=0
 ·subst h
  by_cases h':b=0
  ·subst h';simp (disch:=first|omega|assumption|decide +kernel|(simp;done)|(simp;omega)|fail) [hl,foldS]
  ·simp (disch:=first|omega|assumption|decide +kernel|(simp;done)|(simp;omega)|fail) [hl,h',foldS]
 ·simp (disch:=first|omega|assumption|decide +kernel|(simp;done)|(simp;omega)|fail) [hl,h,foldS]
def cmpStep(a b:List Int)(k:Nat):Option Int:=if b.length≤k then some 1 else if a.getD k 0<b.getD k 0 then some (-1)else if b.getD k 0<a.getD k 0 then some 1 else none
def cmpF(a b:List Int):Int:=match (List.range a.length).findSome? (cmpStep a b)with
 |some n=>n
 |none=>if a.length<b.length then -1 else 0
theorem foldS_find {α ρ:Type}(f:α→Option Int)(g:Int→ρ)(r:ρ): ∀l:List α,foldS (fun(_:Unit) x=>match f x with|some n=> .inr (g n)|none=> .inl ()) (fun _=>r) l ()=match l.findSome? f with|some n=>g n|none=>r
 |[]=>rfl
 |x::l=>by
   simp only[foldS,List.findSome?]
   cases h:f x<;>simp only[]
   exact foldS_find f g r l
theorem e0_cmp_l(a b:List Int)(hb:b.length<4611686018427387904)(ha:a.length<4611686018427387904)(s:Stk):
 Run T0 b55l0 [(0, .sl .no 1 (es cInt a)),(1, .sl .no 1 (es cInt b)),(9, .sl .no 1 (es cInt a)),(10,i64 a.length),(11,i64 0)] ([]::s)=
  some (match (List.range a.length).findSome? (cmpStep a b)with|some n=>(.ret,[(4,i64 n)],[]::s)|none=>(.exit 0,[(0, .sl .no 1 (es cInt a)),(1, .sl .no 1 (es cInt b)),(9, .sl .no 1 (es cInt a)),(10,i64 a.length),(11,i64 a.length),(12, .bool false)],[]::s)):=by
 rw[←foldS_find]
 refine loop_list0 (T:=T0) (List.range a.length) (fun k _=>[(0, .sl .no 1 (es cInt a)),(1, .sl .no 1 (es cInt b)),(9, .sl .no 1 (es cInt a)),(10,i64 a.length),(11,i64 k)]) (fun _ _=>[]::s) _ _ ?_ ?_ (by simp) (by simp) () _ _ (by simp) (by simp)
 ·intro k _ hk
  have hk:k<a.length:=by simpa using hk
  rw[List.getElem_range]
  have e0:a.getD k 0=a[k]:=by simp[List.getD,hk]
  unfold cmpStep
  by_cases h:b.length≤k
  ·have h':(b.length:Int)≤k:=by omega
   simp (disch:=first|omega|assumption|decide +kernel|(simp;done)|(simp;omega)|fail) [hk,h,h',nxt,wk k (by omega)]
  ·have h': ¬(b.length:Int)≤k:=by omega
   have h2:k<b.length:=by omega
   have h3:(k:Int)<b.length:=by omega
   have e1:b.getD k 0=b[k]:=by simp[List.getD,h2]
   rw[e0,e1]
   by_cases h4:a[k]<b[k]
   ·simp (disch:=first|omega|assumption|decide +kernel|(simp;done)|(simp;omega)|fail) [hk,h,h',h2,h3,h4,nxt,wk k (by omega),e0_Compare,cmpI]
   ·by_cases h5:b[k]<a[k]<;>simp (disch:=first|omega|assumption|decide +kernel|(simp;done)|(simp;omega)|fail) [hk,h,h',h2,h3,h4,h5,nxt,wk k (by omega),e0_Compare,cmpI]
 ·intro _ x q h;cases h2:cmpStep a b x<;>simp[h2]at h;subst h;simp
theorem e0_cmpF(a b:List Int)(hb:b.length<4611686018427387904)(ha:a.length<4611686018427387904)(lab s):den T0 55 [.sl .no 1 (es cInt a), .sl .no 1 (es cInt b)] lab s=some (i64 (cmpF a b),s):=by
 have h:=e0_cmp_l a b hb ha
 rw[den_fn u55 _ _ _ rfl]
 simp only[b55,cmpF]
 cases h1:(List.range a.length).findSome? (cmpStep a b)with
 |none=>
   simp only[h1]at h
   by_cases h2:a.length<b.length
   ·have h3:(a.length:Int)<b.length:=by omega
    simp (disch:=first|omega|assumption|decide +kernel|(simp;done)|(simp;omega)|fail) [h,h2,h3]
   ·have h3: ¬(a.length:Int)<b.length:=by omega
    simp (disch:=first|omega|assumption|decide +kernel|(simp;done)|(simp;omega)|fail) [h,h2,h3]
 |some n=>
   simp only[h1]at h
   simp (disch:=first|omega|assumption|decide +kernel|(simp;done)|(simp;omega)|fail) [h]
theorem cmpF_lex: ∀a b,cmpF a b=lexL a b
 |[],b=>by simp[cmpF,lexL]
 |x::a,[]=>by simp[cmpF,lexL,List.range_succ_eq_map,cmpStep]
 |x::a,y::b=>by
   have ih:=cmpF_lex a b
   simp only[lexL,←ih]
   have e: ∀k,cmpStep (x::a) (y::b) (k+1)=cmpStep a b k:=by intro k;simp[cmpStep]
   have e2:cmpStep (x::a) (y::b)∘Nat.succ=cmpStep a b:=by funext k;exact e k
   unfold cmpF
   rw[List.length_cons,List.range_succ_eq_map,List.findSome?_cons,List.findSome?_map,e2]
   simp only[cmpStep,List.length_cons,List.getD_cons_zero]
   by_cases h:x<y
   ·simp[h]
   ·by_cases h':y<x<;>simp[h,h']
theorem bits_small(g:Nat):(bitsL g).length≤5:=by
 unfold bitsL
 rw[List.length_map]
 exact Nat.le_trans (List.length_filter_le _ _) (by simp)
theorem e0_begin1(a b:Nat)(ha:a<32)(hb:b<32)(lab s):den T0 53 [i64 (a:Nat),i64 (b:Nat)] lab s=some (i64 (cmpL (bitsL a) (bitsL b)),s):=by
 have l1:=bits_small a
 have l2:=bits_small b
 have w1:IntKind.i64.wrap (((bitsL a).length:Int)-(bitsL b).length)=((bitsL a).length:Int)-(bitsL b).length:=wi _ (by omega) (by omega)
 have h1:=fun lab s=>e0_list a ha lab s
 have h2:=fun lab s=>e0_list b hb lab s
 have h3:=fun lab s=>e0_cmpF (bitsL a) (bitsL b) (by omega) (by omega) lab s
 rw[cmpF_lex]at h3
 rw[den_fn u53 _ _ _ rfl]
 simp only[b53,cmpL]
 generalize bitsL a=A at*
 generalize bitsL b=B at*
 simp (maxSteps:=1000000) (disch:=first|omega|assumption|decide +kernel|(simp;done)|(simp;omega)|fail) [w1,h1,h2,h3,e0_Or]
def natI(G:List Nat):List Int:=G.map fun(n:Nat)=>(n:Int)
theorem cmpV_bits(a b:Nat)(ha:a<32)(hb:b<32):cmpV T0 false 53 [] [i64 (a:Nat)] [i64 (b:Nat)]=some (cmpL (bitsL a) (bitsL b)):=by
 simp[cmpV,e0_begin1,ha,hb]
theorem mem_natI {G:List Nat} {x:List V}(h:x∈es cInt (natI G)): ∃a,a∈G∧x=[i64 (a:Nat)]:=by
 obtain⟨y,hy,rfl⟩:=List.mem_map.1 h
 obtain⟨a,ha,rfl⟩:=List.mem_map.1 hy
 exact⟨a,ha,rfl⟩
theorem bits_total(G:List Nat)(h: ∀a,a∈G→a<32):Total (cmpV T0 false 53 []) (es cInt (natI G)) where
 some x hx y hy:=by
  obtain⟨a,ha,rfl⟩:=mem_natI hx
  obtain⟨b,hb,rfl⟩:=mem_natI hy
  exact⟨_,cmpV_bits a b (h a ha) (h b hb)⟩
 irr x hx n hn:=by
  obtain⟨a,ha,rfl⟩:=mem_natI hx
  rw[cmpV_bits a a (h a ha) (h a ha)]at hn
  cases hn;exact cmpL_irr _
 tr x hx y hy z hz m n k:=by
  obtain⟨a,ha,rfl⟩:=mem_natI hx
  obtain⟨b,hb,rfl⟩:=mem_natI hy
  obtain⟨c,hc,rfl⟩:=mem_natI hz
  rw[cmpV_bits a b (h a ha) (h b hb),cmpV_bits b c (h b hb) (h c hc),cmpV_bits a c (h a ha) (h c hc)]
  rintro⟨⟩ ⟨⟩ ⟨⟩
  exact cmpL_trans _ _ _
 tot x hx y hy m n:=by
  obtain⟨a,ha,rfl⟩:=mem_natI hx
  obtain⟨b,hb,rfl⟩:=mem_natI hy
  rw[cmpV_bits a b (h a ha) (h b hb),cmpV_bits b a (h b hb) (h a ha)]
  rintro⟨⟩ ⟨⟩ h1 h2
  rw[bits_inj (h a ha) (h b hb) (cmpL_eq _ _ h1 h2)]
theorem bits_sorted(F G:List Nat)(hp:G.Perm F)(h: ∀a,a∈F→a<32)(hs:G.Pairwise fun a b=>cmpL (bitsL a) (bitsL b)<0):SortedBy (cmpV T0 false 53 []) (es cInt (natI F)) (es cInt (natI G)):=by
 refine⟨(hp.map _).map _,?_⟩
 unfold es natI
 rw[List.map_map,List.pairwise_map]
 refine hs.imp_of_mem ?_
 intro a b ha hb hab n hn
 have e:=cmpV_bits b a (h b (hp.mem_iff.1 hb)) (h a (hp.mem_iff.1 ha))
 simp only[Function.comp,cInt]at hn
 rw[e]at hn
 cases hn
 exact fun h2=>cmpL_irr _ (cmpL_trans _ _ _ hab h2)
def changesF(h g:Nat):List Nat:=(List.range (2^g)).filter fun n=>decide ((bitsL n).length≤h)
def changesB(h g:Nat):List Nat:=(choicesS h g).map maskL
theorem changes_perm: ∀g,g<6→ ∀h,h<4→(changesB h g).isPerm (changesF h g)=true:=by decide +kernel
theorem changes_lt {h g:Nat}(hg:g<6) {n:Nat}(hn:n∈changesF h g):n<32:=by
 simp only[changesF,List.mem_filter,List.mem_range]at hn
 have:2^g≤2^5:=Nat.pow_le_pow_right (by decide) (by omega)
 omega
theorem choices_up {h g:Nat}(hg:g<6) {c:List Int}(hc:c∈choicesS h g):c∈allL 5:=allL_up hg (List.mem_filter.1 hc).1
theorem changes_sorted(h g:Nat)(hg:g<6):(changesB h g).Pairwise fun a b=>cmpL (bitsL a) (bitsL b)<0:=by
 unfold changesB
 rw[List.pairwise_map]
 refine(choices_sorted h g).imp_of_mem ?_
 intro a b ha hb hab
 rw[bits_mask _ (choices_up hg ha),bits_mask _ (choices_up hg hb)]
 exact hab
theorem changes_len: ∀g,g<6→ ∀h,h<4→(changesF h g).length≤32∧0<(changesF h g).length:=by decide +kernel
theorem e_sortB(h g:Nat)(hg:g<6)(hh:h<4)(l:Nat)(s:Stk)(d:Nat)(hs:sget s d l=some (.arr 1 (es cInt (natI (changesF h g)))))(lab):
 den T 52 [.asl d l 1 (changesF h g).length 0 (changesF h g).length, .fn 53 [] []] lab s=some (.tup [],sput s d l (.arr 1 (es cInt (natI (changesB h g))))):=by
 obtain⟨h1,h2⟩:=changes_len g hg h hh
 have hp:=List.isPerm_iff.1 (changes_perm g hg h hh)
 rw[den_prim t52]
 have hl:(es cInt (natI (changesF h g))).length=(changesF h g).length:=by simp[es,natI]
 have hne:es cInt (natI (changesF h g))≠[]:=by
  intro e
  rw[e]at hl;simp at hl;omega
 have:=sortFP_eq (T0:=T0) (agg:=false) (d:=d) (l:=l) (sz:=1) (n:=(changesF h g).length) (g:=53) (cap:=[]) (lab:=lab) (s:=s)
  (x:= .arr 1 (es cInt (natI (changesF h g)))) (es:=es cInt (natI (changesF h g))) (r:=es cInt (natI (changesB h g))) hs rfl hl.symm (fun _=>rfl) hne (by rw[hl];omega)
  (by intro x hx;obtain⟨a,_,rfl⟩:=mem_natI hx;simp) rfl (bits_total _ fun a ha=>changes_lt hg ha) (bits_sorted _ _ hp (fun a ha=>changes_lt hg ha) (changes_sorted h g hg))
 unfold sortP
 rw[this]
 simp[sorted]
end Go.Proofs.YtnglkclmplfnpaaGreat

/-
  Doors: begin.
-/
namespace Go.Proofs.YtnglkclmplfnpaaGreat
open Go.Ab
def growF(h:Int)(a:List Nat)(k:Nat):List Nat:=if ((bitsL k).length:Int)≤h then a ++[k]else a
theorem growF_filter(h:Int): ∀(l:List Nat) (a:List Nat),l.foldl (growF h) a=a ++l.filter fun n=>decide (((bitsL n).length:Int)≤h)
 |[],a=>by simp
 |k::l,a=>by
   rw[List.foldl_cons,growF_filter h l,List.filter_cons]
   unfold growF
   split<;>simp[*]
theorem growF_all {h:Int}(h0:0≤h)(g:Nat):(List.range (powN g)).foldl (growF h) []=changesF h.toNat g:=by
 rw[growF_filter,List.nil_append]
 unfold changesF powN
 congr 1
 funext n
 rw[Bool.eq_iff_iff]
 simp only[decide_eq_true_eq]
 omega
@[simp] theorem natI_nil:natI []=[]:=rfl
@[simp] theorem natI_length(l:List Nat):(natI l).length=l.length:=by simp[natI]
theorem natI_snoc(a:List Nat)(k:Nat):es cInt (natI a) ++[[i64 (k:Nat)]]=es cInt (natI (a ++[k])):=by simp[natI,es]
abbrev zero5:List V:=[i64 0,i64 0,i64 0,i64 0,i64 0]
theorem powN_le {g:Nat}(h:g≤5):powN g≤32:=by
 unfold powN
 exact Nat.pow_le_pow_right (n:=2) (by decide) h
set_option maxHeartbeats 4000000 in
theorem e_begin_l0(t:DTrap)(h:DoorOk t)(s:Stk):
 Run T b32l0 [(2, .ptr s.length 32 0),(5, .ptr s.length 80 0),(8, .ptr s.length 432 0),(31,i64 (powN t.gates.length:Nat)),(32,i64 0)] ([(32, .cell (dV t)),(80, .cell zero5),(400, .mp (some 5) []),(432, .cell [i64 t.chambers,i64 t.turns,i64 t.hands, .sl .no 3 (es cGate t.gates), .sl .no 2 (es cGroup t.groups), .asl s.length 133 1 0 0 0, .mp (.ptr s.length 400 0)]),(133, .arr 1 [])]::s)=some (.exit 0,[(2, .ptr s.length 32 0),(5, .ptr s.length 80 0),(8, .ptr s.length 432 0),(31,i64 (powN t.gates.length:Nat)),(32,i64 ((List.range (powN t.gates.length)).length:Nat)),(33, .bool false)],[(32, .cell (dV t)),(80, .cell zero5),(400, .mp (some 5) []),(432, .cell (gameV t [] .nilp|>.set 5 (.asl s.length 133 1 (((List.range (powN t.gates.length)).foldl (growF t.hands) ([]:List Nat))).length 0 (((List.range (powN t.gates.length)).foldl (growF t.hands) ([]:List Nat))).length)|>.set 6 (.mp (.ptr s.length 400 0)))),(133, .arr 1 (es cInt (natI ((List.range (powN t.gates.length)).foldl (growF t.hands) ([]:List Nat)))))]::s):=by
 have key:=loop_fold (T:=T) (live:=[2,5,8,31,32]) (keep:=[32,80,133,400,432]) (b:=d32l0) (List.range (powN t.gates.length)) (fun k (a:List Nat)=>a.length≤k) (growF t.hands) (fun k (a:List Nat)=>[(2, .ptr s.length 32 0),(5, .ptr s.length 80 0),(8, .ptr s.length 432 0),(31,i64 (powN t.gates.length:Nat)),(32,i64 (k:Nat))]) (fun k (a:List Nat)=>[(32, .cell (dV t)),(80, .cell zero5),(400, .mp (some 5) []),(432, .cell (gameV t [] .nilp|>.set 5 (.asl s.length 133 1 (a).length 0 (a).length)|>.set 6 (.mp (.ptr s.length 400 0)))),(133, .arr 1 (es cInt (natI a)))]::s) (fun(a:List Nat)=>(.exit 0,[(2, .ptr s.length 32 0),(5, .ptr s.length 80 0),(8, .ptr s.length 432 0),(31,i64 (powN t.gates.length:Nat)),(32,i64 ((List.range (powN t.gates.length)).length:Nat)),(33, .bool false)],[(32, .cell (dV t)),(80, .cell zero5),(400, .mp (some 5) []),(432, .cell (gameV t [] .nilp|>.set 5 (.asl s.length 133 1 (a).length 0 (a).length)|>.set 6 (.mp (.ptr s.length 400 0)))),(133, .arr 1 (es cInt (natI a)))]::s)) (by simp) ?_ ?_ ?_ ([]:List Nat) (by simp) [(2, .ptr s.length 32 0),(5, .ptr s.length 80 0),(8, .ptr s.length 432 0),(31,i64 (powN t.gates.length:Nat)),(32,i64 0)] ([(32, .cell (dV t)),(80, .cell zero5),(400, .mp (some 5) []),(432, .cell [i64 t.chambers,i64 t.turns,i64 t.hands, .sl .no 3 (es cGate t.gates), .sl .no 2 (es cGroup t.groups), .asl s.length 133 1 0 0 0, .mp (.ptr s.length 400 0)]),(133, .arr 1 [])]::s) (by simp) (by simp)
 ·exact key
 ·intro k a hk hi
  try simp only[List.length_range]at hk
  try simp only[List.getElem_range]
  have hp:=powN_le h.gl
  have hk1:k<32:=by omega
  have hk2:(k:Int)<powN t.gates.length:=by omega
  have h4:=fun lab s=>e_list k hk1 lab s
  have e0:=natI_snoc a k
  have el:(es cInt (natI a)).length=a.length:=by simp[natI]
  have hb:=bits_small k
  have ha:(natI a).length=a.length:=natI_length a
  unfold growF
  generalize powN t.gates.length=P at*
  generalize bitsL k=B at*
  by_cases c:(B.length:Int)≤t.hands
  ·simp (maxSteps:=1000000) (disch:=first|omega|assumption|decide +kernel|(simp;done)|(simp;omega)|fail) [run_drawnK,orSlow_none,hk,hk2,h4,e0,el,c,appA_one,wk k (by omega)]
  ·simp (maxSteps:=1000000) (disch:=first|omega|assumption|decide +kernel|(simp;done)|(simp;omega)|fail) [run_drawnK,orSlow_none,hk,hk2,h4,e0,el,c,wk k (by omega)]
 ·intro k a hk hi
  try simp only[List.length_range]at hk
  try simp only[List.getElem_range]
  unfold growF
  split<;>(try simp only[List.length_append,List.length_cons,List.length_nil])<;>omega
 ·intro a hi
  simp
def gateB(gs:List DGate)(k:Nat):Bool:=match gs[k]? with
 |some g=>g.op
 |none=>false
def orF(gs:List DGate)(o k:Nat):Nat:=if gateB gs k=true then orN o (powN k)else o
def gateBits(gs:List DGate):Nat:=(List.range gs.length).foldl (orF gs) 0
theorem orF_lt {gs:List DGate} {o k:Nat}(h:o<2^k):orF gs o k<2^(k+1):=by
 have h2:2^k<2^(k+1):=Nat.pow_lt_pow_right (by decide) (by omega)
 unfold orF orN powN
 split
 ·exact Nat.or_lt_two_pow (by omega) h2
 ·omega
theorem orF_bits(gs:List DGate): ∀(n:Nat) (j:Nat),((List.range n).foldl (orF gs) 0).testBit j=(decide (j<n)&&gateB gs j)
 |0,j=>by simp
 |n+1,j=>by
   rw[List.range_succ,List.foldl_append,List.foldl_cons,List.foldl_nil]
   have ih:=orF_bits gs n j
   generalize (List.range n).foldl (orF gs) 0=X at*
   unfold orF orN powN
   split
   ·rename_i h
    rw[Nat.testBit_or,ih,Nat.testBit_two_pow]
    by_cases e:n=j
    ·subst e;simp[h]
    ·have:decide (j<n+1)=decide (j<n):=by rw[decide_eq_decide];omega
     simp[e,this]
   ·rename_i h
    rw[ih]
    by_cases e:j=n
    ·subst e;simp[h]
    ·have:decide (j<n+1)=decide (j<n):=by rw[decide_eq_decide];omega
     rw[this]
theorem openG_bits(gs:List DGate):openG (gateBits gs) gs=gs:=by
 apply List.ext_getElem?
 intro j
 rw[openS_get,Nat.zero_add]
 cases hj:gs[j]? with
 |none=>rfl
 |some g=>
   have hlt:=(List.getElem?_eq_some_iff.1 hj).1
   simp only[gateBits,Option.map_some,orF_bits,hlt,decide_true,Bool.true_and,gateB,hj]
theorem gateBits_lt {gs:List DGate}(h:gs.length≤5):gateBits gs<32:=by
 have key: ∀n,(List.range n).foldl (orF gs) 0<2^n:=by
  intro n
  induction n with
  |zero=>simp
  |succ n ih=>rw[List.range_succ,List.foldl_append];exact orF_lt ih
 have h1:=key gs.length
 have:2^gs.length≤2^5:=Nat.pow_le_pow_right (by decide) h
 unfold gateBits;omega
abbrev gmV(t:DTrap)(c:Cap)(C:List Int)(d:Nat):List V:=[i64 t.chambers,i64 t.turns,i64 t.hands, .sl .no 3 (es cGate t.gates), .sl .no 2 (es cGroup t.groups), .sl c 1 (es cInt C), .mp (.ptr d 400 0)]
set_option maxHeartbeats 4000000 in
theorem e_begin_l1(t:DTrap)(h:DoorOk t)(C:List Int)(n:Nat)(s:Stk):
 Run T b32l1 [(2, .ptr s.length 32 0),(5, .ptr s.length 80 0),(8, .ptr s.length 432 0),(10, .ptr s.length 160 0),(61, .sl .no 3 (es cGate t.gates)),(62,i64 t.gates.length),(63,i64 0)] ([(32, .cell (dV t)),(80, .cell zero5),(400, .mp (some 5) []),(432, .cell (gmV t (.own s.length 133) C s.length)),(133, .tok n),(160, .cell [i64 t.turns,i64 0,i64 0,i64 0,i64 0])]::s)=some (.exit 2,[(2, .ptr s.length 32 0),(5, .ptr s.length 80 0),(8, .ptr s.length 432 0),(10, .ptr s.length 160 0),(61, .sl .no 3 (es cGate t.gates)),(62,i64 t.gates.length),(63,i64 ((List.range t.gates.length).length:Nat)),(64, .bool false)],[(32, .cell (dV t)),(80, .cell zero5),(400, .mp (some 5) []),(432, .cell (gmV t .no C s.length)),(160, .cell [i64 t.turns,i64 (((List.range t.gates.length).foldl (orF t.gates) (0:Nat)):Nat),i64 0,i64 0,i64 0])]::s):=by
 have key:=loop_fold (T:=T) (live:=[2,5,8,10,61,62,63]) (keep:=[32,80,160,400,432]) (b:=d32l1) (List.range t.gates.length) (fun k (o:Nat)=>o<2^k) (orF t.gates) (fun k (a:Nat)=>[(2, .ptr s.length 32 0),(5, .ptr s.length 80 0),(8, .ptr s.length 432 0),(10, .ptr s.length 160 0),(61, .sl .no 3 (es cGate t.gates)),(62,i64 t.gates.length),(63,i64 (k:Nat))]) (fun k (a:Nat)=>[(32, .cell (dV t)),(80, .cell zero5),(400, .mp (some 5) []),(432, .cell (gmV t .no C s.length)),(160, .cell [i64 t.turns,i64 (a:Nat),i64 0,i64 0,i64 0])]::s) (fun(a:Nat)=>(.exit 2,[(2, .ptr s.length 32 0),(5, .ptr s.length 80 0),(8, .ptr s.length 432 0),(10, .ptr s.length 160 0),(61, .sl .no 3 (es cGate t.gates)),(62,i64 t.gates.length),(63,i64 ((List.range t.gates.length).length:Nat)),(64, .bool false)],[(32, .cell (dV t)),(80, .cell zero5),(400, .mp (some 5) []),(432, .cell (gmV t .no C s.length)),(160, .cell [i64 t.turns,i64 (a:Nat),i64 0,i64 0,i64 0])]::s)) (by simp) ?_ ?_ ?_ (0:Nat) (by simp) [(2, .ptr s.length 32 0),(5, .ptr s.length 80 0),(8, .ptr s.length 432 0),(10, .ptr s.length 160 0),(61, .sl .no 3 (es cGate t.gates)),(62,i64 t.gates.length),(63,i64 0)] ([(32, .cell (dV t)),(80, .cell zero5),(400, .mp (some 5) []),(432, .cell (gmV t (.own s.length 133) C s.length)),(133, .tok n),(160, .cell [i64 t.turns,i64 0,i64 0,i64 0,i64 0])]::s) (by simp) (by simp)
 ·exact key
 ·intro k a hk hi
  try simp only[List.length_range]at hk
  try simp only[List.getElem_range]
  have hl:=h.gl
  have hk2:(k:Int)<t.gates.length:=by omega
  have h32:2^k≤2^5:=Nat.pow_le_pow_right (by decide) (by omega)
  have hb1:=bshl (n:=k) (by omega)
  have hb2:=bor (a:=a) (b:=powN k) (by omega) (powN_lt (by omega))
  unfold orF gateB
  rw[List.getElem?_eq_getElem hk]
  generalize hG:t.gates[k]=G at*
  have hG2:(G.op=true)=(G.op=true):=rfl
  generalize orN a (powN k)=y at*
  generalize powN k=x at*
  cases c:G.op
  ·simp (maxSteps:=1000000) (disch:=first|omega|assumption|decide +kernel|(simp;done)|(simp;omega)|fail) [run_drawnK,orSlow_none,hk,hk2,hG,hb1,hb2,c,wk k (by omega),-bin_shl,-bin_or]
  ·simp (maxSteps:=1000000) (disch:=first|omega|assumption|decide +kernel|(simp;done)|(simp;omega)|fail) [run_drawnK,orSlow_none,hk,hk2,hG,hb1,hb2,c,wk k (by omega),-bin_shl,-bin_or]
 ·intro k a hk hi
  try simp only[List.length_range]at hk
  try simp only[List.getElem_range]
  exact orF_lt hi
 ·intro a hi
  simp
def pk(gs:List DGroup)(k j:Nat):Int:=if j<k then(match gs[j]? with|some g=>g.pos|none=>0)else 0
theorem pk_same {gs:List DGroup} {k:Nat}(hk:k<gs.length):pk gs (k+1) k=gs[k].pos:=by simp[pk,hk]
theorem pk_step {gs:List DGroup} {k j:Nat}(h:j≠k):pk gs (k+1) j=pk gs k j:=by
 unfold pk
 have:(j<k+1)=(j<k):=by rw[eq_iff_iff];omega
 simp only[this]
theorem pk_zero(gs:List DGroup)(j:Nat):pk gs 0 j=0:=by simp[pk]
set_option maxHeartbeats 4000000 in
theorem e_begin_l2(t:DTrap)(h:DoorOk t)(C:List Int)(o:Nat)(s:Stk):
 Run T b32l2 [(5, .ptr s.length 80 0),(8, .ptr s.length 432 0),(10, .ptr s.length 160 0),(78, .sl .no 2 (es cGroup t.groups)),(79,i64 t.groups.length),(80,i64 0)]
  ([(32, .cell (dV t)),(80, .cell zero5),(400, .mp (some 5) []),(432, .cell (gmV t .no C s.length)),(160, .cell [i64 t.turns,i64 (o:Nat),i64 0,i64 0,i64 0])]::s)=
 some (.exit 4,[(5, .ptr s.length 80 0),(8, .ptr s.length 432 0),(10, .ptr s.length 160 0),(78, .sl .no 2 (es cGroup t.groups)),(79,i64 t.groups.length),(80,i64 t.groups.length),(81, .bool false)],
  [(32, .cell (dV t)),(80, .cell zero5),(400, .mp (some 5) []),(432, .cell (gmV t .no C s.length)),(160, .cell [i64 t.turns,i64 (o:Nat),i64 (pk t.groups t.groups.length 0),i64 (pk t.groups t.groups.length 1),i64 (pk t.groups t.groups.length 2)])]::s):=by
 have hl:=h.ol
 have key:=loop_fold (T:=T) (live:=[5,8,10,78,79,80]) (keep:=[32,80,160,400,432]) (b:=d32l2) (List.range t.groups.length) (fun _ (_:Unit)=>True) (fun _ _=>())
  (fun k _=>[(5, .ptr s.length 80 0),(8, .ptr s.length 432 0),(10, .ptr s.length 160 0),(78, .sl .no 2 (es cGroup t.groups)),(79,i64 t.groups.length),(80,i64 (k:Nat))])
  (fun k _=>[(32, .cell (dV t)),(80, .cell zero5),(400, .mp (some 5) []),(432, .cell (gmV t .no C s.length)),(160, .cell [i64 t.turns,i64 (o:Nat),i64 (pk t.groups k 0),i64 (pk t.groups k 1),i64 (pk t.groups k 2)])]::s)
  (fun _=>(.exit 4,[(5, .ptr s.length 80 0),(8, .ptr s.length 432 0),(10, .ptr s.length 160 0),(78, .sl .no 2 (es cGroup t.groups)),(79,i64 t.groups.length),(80,i64 t.groups.length),(81, .bool false)],
    [(32, .cell (dV t)),(80, .cell zero5),(400, .mp (some 5) []),(432, .cell (gmV t .no C s.length)),(160, .cell [i64 t.turns,i64 (o:Nat),i64 (pk t.groups t.groups.length 0),i64 (pk t.groups t.groups.length 1),i64 (pk t.groups t.groups.length 2)])]::s))
  (by simp) ?_ (by simp) ?_ () trivial [(5, .ptr s.length 80 0),(8, .ptr s.length 432 0),(10, .ptr s.length 160 0),(78, .sl .no 2 (es cGroup t.groups)),(79,i64 t.groups.length),(80,i64 0)]
   ([(32, .cell (dV t)),(80, .cell zero5),(400, .mp (some 5) []),(432, .cell (gmV t .no C s.length)),(160, .cell [i64 t.turns,i64 (o:Nat),i64 0,i64 0,i64 0])]::s) (by simp) (by simp[pk_zero])
 ·exact key
 ·intro k _ hk _
  simp only[List.length_range]at hk
  try simp only[List.getElem_range]
  have hk2:(k:Int)<t.groups.length:=by omega
  have e0:=pk_same hk
  have w0:2*(k:Int)<10:=by omega
  generalize hG:t.groups[k]=G at*
  match k,hk with
  |0,hk0=>
    have hne: ¬t.groups=[]:=fun e=>by simp[e]at hk0
    have e1:=pk_step (gs:=t.groups) (k:=0) (j:=1) (by decide)
    have e2:=pk_step (gs:=t.groups) (k:=0) (j:=2) (by decide)
    try simp only[Nat.zero_add]at e0 e1 e2
    simp (maxSteps:=1000000) (disch:=first|omega|assumption|decide +kernel|(simp;done)|(simp;omega)|fail) [hk,hk2,hne,hG,e0,e1,e2,wi]
  |1,hk0=>
    have hk3:(1:Int)<t.groups.length:=by omega
    have e1:=pk_step (gs:=t.groups) (k:=1) (j:=0) (by decide)
    have e2:=pk_step (gs:=t.groups) (k:=1) (j:=2) (by decide)
    try simp only[Nat.reduceAdd]at e0 e1 e2
    simp (maxSteps:=1000000) (disch:=first|omega|assumption|decide +kernel|(simp;done)|(simp;omega)|fail) [hk,hk2,hk3,hG,e0,e1,e2,wi]
  |2,hk0=>
    have hk3:(2:Int)<t.groups.length:=by omega
    have e1:=pk_step (gs:=t.groups) (k:=2) (j:=0) (by decide)
    have e2:=pk_step (gs:=t.groups) (k:=2) (j:=1) (by decide)
    try simp only[Nat.reduceAdd]at e0 e1 e2
    simp (maxSteps:=1000000) (disch:=first|omega|assumption|decide +kernel|(simp;done)|(simp;omega)|fail) [hk,hk2,hk3,hG,e0,e1,e2,wi]
  |n+3,hk=>omega
 ·intro _ _
  simp
end Go.Proofs.YtnglkclmplfnpaaGreat

/-
  Doors: begin, the whole.
-/
namespace Go.Proofs.YtnglkclmplfnpaaGreat
open Go.Ab
def chB(t:DTrap):List Int:=natI (changesB t.hands.toNat t.gates.length)
def at0(t:DTrap)(j:Nat):Int:=pk t.groups t.groups.length j
abbrev sceneV(T o a b c:Int):List V:=[i64 T,i64 o,i64 a,i64 b,i64 c]
abbrev scene0(t:DTrap):List V:=sceneV t.turns (gateBits t.gates:Nat) (at0 t 0) (at0 t 1) (at0 t 2)
theorem chB_len {t:DTrap}(h:DoorOk t):(chB t).length=(changesF t.hands.toNat t.gates.length).length∧0<(chB t).length∧(chB t).length≤32:=by
 have h1:=h.gl
 have h2:=h.ha
 have hp:=List.isPerm_iff.1 (changes_perm t.gates.length (by omega) t.hands.toNat (by omega))
 have hl:=changes_len t.gates.length (by omega) t.hands.toNat (by omega)
 have:=hp.length_eq
 simp only[chB,natI_length]
 omega
set_option maxHeartbeats 8000000 in
theorem e_begin(t:DTrap)(h:DoorOk t)(lab)(loc:Ab.Loc)(s:Stk)(k0:loc.get lab=none)(k1:loc.get (lab+1000)=none):
 den T 32 [.agg (dV t), .bool true] lab (loc::s)=some (.tup [.ptr s.length lab 0, .agg (scene0 t),i64 0],
  Loc.put (Loc.put loc lab (.cell (gameV t (chB t) (.mp (.ptr s.length (lab+1000) 0))))) (lab+1000) (.mp (some 5) [])::s):=by
 have hok:doorBDd t=true:=doorB_iff.2 h
 have hc:=fun lab s=>e_CheckD t (doorB_short hok) lab s
 rw[hok]at hc
 have hl:=h.gl
 have hh:=h.ha
 have g0:=e_begin_l0 t h (loc::s)
 rw[growF_all hh.1]at g0
 have g1:=e_begin_l1 t h (chB t) (changesF t.hands.toNat t.gates.length).length (loc::s)
 have g2:=e_begin_l2 t h (chB t) (gateBits t.gates) (loc::s)
 have hb:=bshl (n:=t.gates.length) (by omega)
 have hs:=fun(F:Ab.Loc) (hF:Loc.get F 133=some (.arr 1 (es cInt (natI (changesF t.hands.toNat t.gates.length))))) lab=>e_sortB t.hands.toNat t.gates.length (by omega) (by omega) 133 (F::loc::s) (loc::s).length (by simp[hF]) lab
 obtain⟨c1,c2,c3⟩:=chB_len h
 change∀F,_→ ∀lab,_=some (_,sput _ _ _ (.arr 1 (es cInt (chB t))))at hs
 change Run T _ _ _=some (_,_,[_,_,_,_,(160, .cell [i64 t.turns,i64 ((gateBits t.gates:Nat):Int),i64 0,i64 0,i64 0])]::_)at g1
 rw[←c1]at g0 g1 hs
 have c4:(es cInt (chB t)).length=(chB t).length:=by simp
 simp only[scene0,sceneV,at0]
 generalize gateBits t.gates=o at*
 generalize changesF t.hands.toNat t.gates.length=F0 at*
 generalize chB t=C at*
 generalize powN t.gates.length=P at*
 generalize pk t.groups t.groups.length 0=p0 at*
 generalize pk t.groups t.groups.length 1=p1 at*
 generalize pk t.groups t.groups.length 2=p2 at*
 have hne: ¬(C.length=0):=by omega
 simp only[List.length_cons]at g0 g1 g2 hs
 rw[den_fn t32 _ _ _ rfl]
 simp only[b32]
 simp (maxSteps:=6000000) (disch:=first|omega|assumption|decide +kernel|(simp;done)|(simp;omega)|fail) [run_drawnK,orSlow_none,hc,g0,g1,g2,hs,hb,c4,hne,k0,k1,newLab,idxOf,dedup,-bin_shl]
theorem e_begin_bad(t:DTrap)(hs:ShortD t)(h:doorBDd t=false)(b:Bool)(lab)(loc:Ab.Loc)(s:Stk):
 den T 32 [.agg (dV t), .bool b] lab (loc::s)=some (.tup [.nilp, .agg zero5,i64 30],loc::s):=by
 have hc:=fun lab s=>e_CheckD t hs lab s
 rw[h]at hc
 rw[den_fn t32 _ _ _ rfl]
 simp only[b32]
 simp (maxSteps:=1000000) (disch:=first|omega|assumption|decide +kernel|(simp;done)|(simp;omega)|fail) [hc]
theorem e_begin_arg(t:DTrap)(h:DoorOk t)(lab)(loc:Ab.Loc)(s:Stk):
 den T 32 [.agg (dV t), .bool false] lab (loc::s)=some (.tup [.nilp, .agg zero5,i64 1],loc::s):=by
 have hok:doorBDd t=true:=doorB_iff.2 h
 have hc:=fun lab s=>e_CheckD t (doorB_short hok) lab s
 rw[hok]at hc
 rw[den_fn t32 _ _ _ rfl]
 simp only[b32]
 simp (maxSteps:=1000000) (disch:=first|omega|assumption|decide +kernel|(simp;done)|(simp;omega)|fail) [hc]
end Go.Proofs.YtnglkclmplfnpaaGreat

/-
  Doors: caught, moves.
-/
namespace Go.Proofs.YtnglkclmplfnpaaGreat
open Go.Ab
def caughtG(t:DTrap)(l:List Int)(a:Int)(k:Nat):Int:=match t.groups[k]? with
 |some g=>if l.getD k 0=t.chambers-1 then a+g.fish else a
 |none=>a
theorem caughtG_bound {t:DTrap}(h: ∀g,g∈t.groups→0≤g.fish∧g.fish≤99)(l:List Int)(a:Int)(k:Nat)(ha:0≤a∧a≤99*k):0≤caughtG t l a k∧caughtG t l a k≤99*((k+1:Nat):Int):=by
 unfold caughtG
 split
 ·rename_i g hg
  have:=h g (List.mem_of_getElem? hg)
  split<;>omega
 ·omega
theorem caughtG_fold(t:DTrap)(l:List Int)(hl:t.groups.length≤l.length)(hn:0≤t.chambers):(List.range t.groups.length).foldl (caughtG t l) 0=caughtS t.chambers.toNat (fishL t) l:=by
 have key: ∀(gs:List DGroup) (l:List Int) (a:Int),gs.length≤l.length→
  (List.range gs.length).foldl (fun a k=>match gs[k]? with|some g=>if l.getD k 0=t.chambers-1 then a+g.fish else a|none=>a) a=a+caughtS t.chambers.toNat (gs.map (·.fish)) l:=by
  intro gs
  induction gs with
  |nil=>intro l a _;simp[caughtS]
  |cons g gs ih=>
    intro l a hl
    cases l with
    |nil=>simp at hl
    |cons p l=>
      rw[List.length_cons,List.range_succ_eq_map,List.foldl_cons,List.foldl_map]
      simp only[List.getElem?_cons_zero,List.getD_cons_zero,List.getElem?_cons_succ,List.getD_cons_succ,List.map_cons,caughtS]
      rw[ih l _ (by simpa using hl)]
      have e:t.chambers=(t.chambers.toNat:Int):=by omega
      by_cases c:p=t.chambers-1
      ·have c':p=(t.chambers.toNat:Int)-1:=by omega
       rw[if_pos c,if_pos c'];omega
      ·have c': ¬p=(t.chambers.toNat:Int)-1:=by omega
       rw[if_neg c,if_neg c'];omega
 have:=key t.groups l 0 hl
 rw[Int.zero_add]at this
 exact this
set_option maxHeartbeats 4000000 in
theorem e_caught_l(t:DTrap)(hl:t.groups.length≤3)(hch:1≤t.chambers∧t.chambers≤4)(hf: ∀g,g∈t.groups→0≤g.fish∧g.fish≤99)(C:List Int)(m:V)(a0 a1 a2:Int)(d l:Nat)(s:Stk)(hd:d<s.length)(h:sget s d l=some (.cell (gameV t C m))):
 Run T b67l0 [(0, .ptr d l 0),(3, .ptr s.length 48 0),(5,i64 0),(12, .sl (gcap m) 2 (es cGroup t.groups)),(13,i64 t.groups.length),(14,i64 0)] ([(48, .cell [i64 a0,i64 a1,i64 a2])]::s)=
  some (.exit 0,[(0, .ptr d l 0),(3, .ptr s.length 48 0),(5,i64 ((List.range t.groups.length).foldl (caughtG t [a0,a1,a2]) 0)),(12, .sl (gcap m) 2 (es cGroup t.groups)),(13,i64 t.groups.length),(14,i64 t.groups.length),(15, .bool false)],[(48, .cell [i64 a0,i64 a1,i64 a2])]::s):=by
 have hd2: ¬d=s.length:=by omega
 refine loop_fold (T:=T) (live:=[0,3,5,12,13,14]) (keep:=[48]) (b:=d67l0) (List.range t.groups.length) (fun k (a:Int)=>0≤a∧a≤99*k) (caughtG t [a0,a1,a2])
  (fun k a=>[(0, .ptr d l 0),(3, .ptr s.length 48 0),(5,i64 a),(12, .sl (gcap m) 2 (es cGroup t.groups)),(13,i64 t.groups.length),(14,i64 (k:Nat))]) (fun _ _=>[(48, .cell [i64 a0,i64 a1,i64 a2])]::s)
  (fun a=>(.exit 0,[(0, .ptr d l 0),(3, .ptr s.length 48 0),(5,i64 a),(12, .sl (gcap m) 2 (es cGroup t.groups)),(13,i64 t.groups.length),(14,i64 t.groups.length),(15, .bool false)],[(48, .cell [i64 a0,i64 a1,i64 a2])]::s))
  (by simp) ?_ ?_ ?_ 0 (by simp) [(0, .ptr d l 0),(3, .ptr s.length 48 0),(5,i64 0),(12, .sl (gcap m) 2 (es cGroup t.groups)),(13,i64 t.groups.length),(14,i64 0)] ([(48, .cell [i64 a0,i64 a1,i64 a2])]::s) (by simp[hd2]) (by simp)
 ·intro k a hk hi
  simp only[List.length_range]at hk
  simp only[List.getElem_range]
  have hk2:(k:Int)<t.groups.length:=by omega
  have hF:=hf _ (List.getElem_mem hk)
  have w1:IntKind.i64.wrap (t.chambers-1)=t.chambers-1:=wi _ (by omega) (by omega)
  unfold caughtG
  rw[List.getElem?_eq_getElem hk]
  generalize hG:t.groups[k]=G at*
  have w2:IntKind.i64.wrap (a+G.fish)=a+G.fish:=wi _ (by omega) (by omega)
  match k,hk with
  |0,hk0=>
    have hne: ¬t.groups=[]:=fun e=>by simp[e]at hk0
    by_cases c:a0=t.chambers-1<;>simp (maxSteps:=1000000) (disch:=first|omega|assumption|decide +kernel|(simp;done)|(simp;omega)|fail) [run_drawnK,orSlow_none,hk,hk2,hne,hG,hd2,h,c,w1,w2,wi]
  |1,hk0=>
    have hk3:(1:Int)<t.groups.length:=by omega
    by_cases c:a1=t.chambers-1<;>simp (maxSteps:=1000000) (disch:=first|omega|assumption|decide +kernel|(simp;done)|(simp;omega)|fail) [run_drawnK,orSlow_none,hk,hk2,hk3,hG,hd2,h,c,w1,w2,wi]
  |2,hk0=>
    have hk3:(2:Int)<t.groups.length:=by omega
    by_cases c:a2=t.chambers-1<;>simp (maxSteps:=1000000) (disch:=first|omega|assumption|decide +kernel|(simp;done)|(simp;omega)|fail) [run_drawnK,orSlow_none,hk,hk2,hk3,hG,hd2,h,c,w1,w2,wi]
  |n+3,hk=>omega
 ·intro k a hk hi
  simp only[List.length_range]at hk
  simp only[List.getElem_range]
  exact caughtG_bound hf _ a k hi
 ·intro a hi
  simp
theorem e_caught(t:DTrap)(hl:t.groups.length≤3)(hch:1≤t.chambers∧t.chambers≤4)(hf: ∀g,g∈t.groups→0≤g.fish∧g.fish≤99)(C:List Int)(m:V)(a0 a1 a2:Int)(d l:Nat)(s:Stk)(hd:d<s.length)(h:sget s d l=some (.cell (gameV t C m)))(lab):
 den T 67 [.ptr d l 0, .agg [i64 a0,i64 a1,i64 a2]] lab s=some (i64 (caughtS t.chambers.toNat (fishL t) [a0,a1,a2]),s):=by
 have key:=e_caught_l t hl hch hf C m a0 a1 a2 d l s hd h
 rw[caughtG_fold t [a0,a1,a2] (by simpa using hl) (by omega)]at key
 have hd2: ¬d=s.length:=by omega
 rw[den_fn t67 _ _ _ rfl]
 simp only[b67]
 simp (maxSteps:=1000000) (disch:=first|omega|assumption|decide +kernel|(simp;done)|(simp;omega)|fail) [h,hd2,key]
end Go.Proofs.YtnglkclmplfnpaaGreat

/-
  Doors: the moves, one by one.
-/
namespace Go.Proofs.YtnglkclmplfnpaaGreat
open Go.Ab
abbrev sceneL(T o:Int)(n:List Int):List V:=i64 T::i64 o::n.map i64
def fromY {σ:Type}(Y:σ→List Int→σ×Bool):List (List Int)→Nat→List Int×σ→(List Int×σ)×Bool
 |[],_,p=>((p.1,(Y p.2 p.1).1),(Y p.2 p.1).2)
 |w::r,j,p=>foldB (fun p x=>fromY Y r (j+1) (p.1.set j x,p.2)) w p
def InN(t:DTrap)(n:List Int):Prop:=n.length=3∧ ∀i,i<t.groups.length→0≤n.getD i 0∧n.getD i 0≤t.chambers-1
structure YieldD(t:DTrap)(C:List Int)(m:V)(σ:Type)(d l db lb dg lg D:Nat)(T' o' T o:Int)(n0:List Int)(St:List Int→σ→Stk)(Y:σ→List Int→σ×Bool)(ok:σ→Prop):Prop where
 len: ∀n a,(St n a).length=D
 ltd:d<D
 ltb:db<D
 ltg:dg<D
 gbox: ∀n a,sget (St n a) db lb=some (.cell [.ptr dg lg 0])
 game: ∀n a,sget (St n a) dg lg=some (.cell (gameV t C m))
 next: ∀n a,sget (St n a) db (lb+1000)=some (.cell (sceneL T o n))
 scene: ∀n a,sget (St n a) db (lb+2000)=some (.cell (sceneL T' o' n0))
 put: ∀n n' a,sput (St n a) db (lb+1000) (.cell (sceneL T o n'))=St n' a
 yield: ∀(fr:Stk) n a lab,InN t n→ok a→denV Go.Proofs.YtnglkclmplfnpaaGreat.T (.yld d l) [.agg (sceneL T o n)] lab (fr ++St n a)=some (.bool (Y a n).2,fr ++St n (Y a n).1)
 keep: ∀n a,InN t n→ok a→(Y a n).2=true→ok (Y a n).1
def movesFrame(d l db lb D:Nat):Ab.Loc:=[(64, .cell [.yld d l]),(80, .cell [.fn 106 [] [.ptr db lb 0, .ptr D 64 0, .ptr db (lb+1000) 0, .ptr db (lb+2000) 0, .ptr D 80 0]])]
theorem sget_append(d l:Nat): ∀(fr S:Stk),d<S.length→sget (fr ++S) d l=sget S d l
 |[],_,_=>rfl
 |x::fr,S,h=>by
   rw[List.cons_append,sget_cons,if_neg (by simp;omega)]
   exact sget_append d l fr S h
theorem sput_append(d l:Nat)(x:Entry): ∀(fr S:Stk),d<S.length→sput (fr ++S) d l x=fr ++sput S d l x
 |[],_,_=>rfl
 |y::fr,S,h=>by
   rw[List.cons_append,sput_cons,if_neg (by simp;omega),sput_append d l x fr S h];rfl
theorem waysS_len {n:Nat} {gs:List DGate} {p:Int}:(waysS n gs p).length≤n+1:=by
 unfold waysS
 dsimp only
 split
 ·simp
 ·have:=List.length_filter_le (wayB gs p) (rangeI n)
  simp only[rangeI,List.length_map,List.length_range]at this⊢;omega
theorem foldB_inv {α σ:Type} {f:σ→α→σ×Bool} {I:σ→Prop}: ∀ {l:List α} {a:σ},(∀a x,x∈l→I a→I (f a x).1)→I a→I (foldB f l a).1
 |[],_,_,h=>h
 |x::l,a,hs,h=>by
   simp only[foldB]
   split
   ·exact foldB_inv (fun a y hy=>hs a y (by simp[hy])) (hs a x (by simp) h)
   ·exact hs a x (by simp) h
theorem fromY_keep {σ:Type}(Y:σ→List Int→σ×Bool): ∀(W:List (List Int)) (j:Nat) (p:List Int×σ),(fromY Y W j p).1.1.length=p.1.length∧ ∀i,i<j→(fromY Y W j p).1.1.getD i 0=p.1.getD i 0
 |[],j,p=>⟨rfl,fun _ _=>rfl⟩
 |w::W,j,p=>by
   simp only[fromY]
   refine foldB_inv (I:=fun q:List Int×σ=>q.1.length=p.1.length∧ ∀i,i<j→q.1.getD i 0=p.1.getD i 0) (fun q x _ hq=> ?_) ⟨rfl,fun _ _=>rfl⟩
   obtain⟨h1,h2⟩:=fromY_keep Y W (j+1) (q.1.set j x,q.2)
   refine⟨by rw[h1,List.length_set,hq.1],fun i hi=> ?_⟩
   rw[h2 i (by omega),←hq.2 i hi]
   simp only[List.getD,List.getElem?_set,show¬j=i by omega,if_false]
theorem foldB_inv2 {α σ:Type} {f:σ→α→σ×Bool} {I:σ→Prop}: ∀ {l:List α} {a:σ},(∀a x,x∈l→I a→(f a x).2=true→I (f a x).1)→I a→(foldB f l a).2=true→I (foldB f l a).1
 |[],_,_,h,_=>h
 |x::l,a,hs,h,hb=>by
   simp only[foldB]at hb⊢
   split at hb
   ·rename_i h1
    rw[if_pos h1]
    exact foldB_inv2 (fun a y hy=>hs a y (by simp[hy])) (hs a x (by simp) h h1) hb
   ·rename_i h1
    rw[if_neg h1]
    exact absurd hb h1
set_option maxHeartbeats 8000000 in
theorem e_fromD(t:DTrap)(hch:t.chambers≤4)(hl:t.gates.length≤5)(ho3:t.groups.length≤3)(hg: ∀g∈t.gates,(0≤g.a∧g.a≤t.chambers-1)∧(0≤g.b∧g.b≤t.chambers-1)∧g.a≠g.b) {C:List Int} {m:V} {σ:Type} {d l db lb dg lg D:Nat} {T' o' T1:Int} {o:Nat}(ho:o<32) {n0:List Int}(hn0:InN t n0)
 {St:List Int→σ→Stk} {Y:σ→List Int→σ×Bool} {ok:σ→Prop} (y:YieldD t C m σ d l db lb dg lg D T' o' T1 (o:Nat) n0 St Y ok):
 ∀(W:List (List Int)) (j:Nat),j+W.length=t.groups.length→W=((n0.take t.groups.length).drop j).map (waysS t.chambers.toNat (openG o t.gates))→ ∀(n:List Int),n.length=3→(∀i,i<j→0≤n.getD i 0∧n.getD i 0≤t.chambers-1)→ ∀(fr:Stk) (a:σ),ok a→((fromY Y W j (n,a)).2=true→ok (fromY Y W j (n,a)).1.2)∧ ∀(lab:Nat),
  den T 106 [i64 (j:Nat), .ptr db lb 0, .ptr D 64 0, .ptr db (lb+1000) 0, .ptr db (lb+2000) 0, .ptr D 80 0] lab (fr ++movesFrame d l db lb D::St n a)=
   some (.bool (fromY Y W j (n,a)).2,fr ++movesFrame d l db lb D::St (fromY Y W j (n,a)).1.1 (fromY Y W j (n,a)).1.2):=by
 have hlt:=y.ltd
 have hltb:=y.ltb
 have hltg:=y.ltg
 have facts: ∀(fr:Stk) (n:List Int) (a:σ),sget (fr ++movesFrame d l db lb D::St n a) D 64=some (.cell [.yld d l])∧
  sget (fr ++movesFrame d l db lb D::St n a) D 80=some (.cell [.fn 106 [] [.ptr db lb 0, .ptr D 64 0, .ptr db (lb+1000) 0, .ptr db (lb+2000) 0, .ptr D 80 0]])∧
  sget (fr ++movesFrame d l db lb D::St n a) db lb=some (.cell [.ptr dg lg 0])∧sget (fr ++movesFrame d l db lb D::St n a) dg lg=some (.cell (gameV t C m))∧
  sget (fr ++movesFrame d l db lb D::St n a) db (lb+1000)=some (.cell (sceneL T1 (o:Nat) n))∧sget (fr ++movesFrame d l db lb D::St n a) db (lb+2000)=some (.cell (sceneL T' o' n0))∧
  (∀n',sput (fr ++movesFrame d l db lb D::St n a) db (lb+1000) (.cell (sceneL T1 (o:Nat) n'))=fr ++movesFrame d l db lb D::St n' a)∧
  D<(fr ++movesFrame d l db lb D::St n a).length:=by
  intro fr n a
  have hln:=y.len n a
  have g: ∀l',sget (fr ++movesFrame d l db lb D::St n a) D l'=(movesFrame d l db lb D).get l':=fun l'=>by
   rw[sget_append _ _ _ _ (by simp only[List.length_cons];omega),←hln,sget_top]
  have low: ∀d' l',d'<D→sget (fr ++movesFrame d l db lb D::St n a) d' l'=sget (St n a) d' l':=fun d' l' hd=>by
   rw[show fr ++movesFrame d l db lb D::St n a=(fr ++[movesFrame d l db lb D]) ++St n a by simp,sget_append _ _ _ _ (by omega)]
  refine⟨by rw[g];rfl,by rw[g];rfl,by rw[low _ _ hltb,y.gbox],by rw[low _ _ hltg,y.game],by rw[low _ _ hltb,y.next],by rw[low _ _ hltb,y.scene],fun n'=> ?_,?_⟩
  ·rw[show fr ++movesFrame d l db lb D::St n a=(fr ++[movesFrame d l db lb D]) ++St n a by simp,sput_append _ _ _ _ _ (by omega),y.put];simp
  ·simp only[List.length_append,List.length_cons];omega
 intro W
 induction W with
 |nil=>
   intro j hj hW n hn hin fr a hok
   refine⟨fun hb=>y.keep n a ⟨hn,fun i hi=>hin i (by simp at hj;omega)⟩ hok hb,fun lab=> ?_⟩
   obtain⟨h64,h80,hgb,hga,hnx,hsc,hput,hD⟩:=facts fr n a
   have hyy:=y.yield ([]::(fr ++[movesFrame d l db lb D])) n a
   simp only[List.cons_append,List.append_assoc,List.nil_append]at hyy
   have hy2:=fun lab=>hyy lab ⟨hn,fun i hi=>hin i (by simp at hj;omega)⟩ hok
   have hj2:(j:Int)=t.groups.length:=by simp at hj;omega
   simp only[fromY]
   generalize Y a n=q at hy2⊢
   obtain⟨a',bb⟩:=q
   obtain⟨x0,x1,x2,rfl⟩: ∃x0 x1 x2,n=[x0,x1,x2]:=by
    match n,hn with
    |[x0,x1,x2],_=>exact⟨x0,x1,x2,rfl⟩
   generalize fr ++movesFrame d l db lb D::St [x0,x1,x2] a=X at*
   generalize fr ++movesFrame d l db lb D::St [x0,x1,x2] a'=X' at*
   have e1: ¬D=X.length:=by omega
   have e2: ¬db=X.length:=by omega
   have e3: ¬dg=X.length:=by omega
   have e4: ¬d=X.length:=by omega
   simp only[sceneL,List.map_cons,List.map_nil]at hy2 hnx hsc
   rw[den_fn t106 _ _ _ rfl]
   simp only[b106]
   simp (maxSteps:=1000000) (disch:=first|omega|assumption|decide +kernel|(simp;done)|(simp;omega)|fail) [h64,hgb,hga,hnx,hsc,e1,e2,e3,e4,hy2,hj2]
 |cons w W ih=>
   intro j hj hW n hn hin fr a hok
   have hjl:j<t.groups.length:=by simp at hj;omega
   have hj3:j<3:=by omega
   obtain⟨hn0l,hn0r⟩:=hn0
   have htl:(n0.take t.groups.length).length=t.groups.length:=by simp;omega
   have hdrop:(n0.take t.groups.length).drop j=n0.getD j 0::(n0.take t.groups.length).drop (j+1):=by
    rw[List.drop_eq_getElem_cons (by omega)]
    congr 1
    simp[List.getD,show j<n0.length by omega]
   rw[hdrop,List.map_cons]at hW
   simp only[List.cons.injEq]at hW
   obtain⟨hw,hW'⟩:=hW
   have hwr: ∀x,x∈w→0≤x∧x≤t.chambers-1:=fun x hx=>by
    rw[hw]at hx
    have h1:=hn0r j hjl
    have:=waysS_range (by omega) hx
    omega
   have hch0:=hn0r j hjl
   have hwl:w.length<1000000:=by
    rw[hw]
    have:=waysS_len (n:=t.chambers.toNat) (gs:=openG o t.gates) (p:=n0.getD j 0)
    have h4:=hch
    omega
   obtain⟨X,hX⟩: ∃X:List Int→σ→Stk,∀n a,fr ++movesFrame d l db lb D::St n a=X n a:=⟨_,fun _ _=>rfl⟩
   have fx: ∀(n:List Int) (a:σ),sget (X n a) D 64=some (.cell [.yld d l])∧
    sget (X n a) D 80=some (.cell [.fn 106 [] [.ptr db lb 0, .ptr D 64 0, .ptr db (lb+1000) 0, .ptr db (lb+2000) 0, .ptr D 80 0]])∧
    sget (X n a) db lb=some (.cell [.ptr dg lg 0])∧sget (X n a) dg lg=some (.cell (gameV t C m))∧
    sget (X n a) db (lb+1000)=some (.cell (sceneL T1 (o:Nat) n))∧sget (X n a) db (lb+2000)=some (.cell (sceneL T' o' n0))∧
    (∀n',sput (X n a) db (lb+1000) (.cell (sceneL T1 (o:Nat) n'))=X n' a)∧D<(X n a).length:=fun n a=>by
    have:=facts fr n a;simp only[hX]at this;exact this
   have hI:=fun(n':List Int) (h3:n'.length=3) (hr: ∀i,i<j+1→0≤n'.getD i 0∧n'.getD i 0≤t.chambers-1) a' (ha:ok a')=>ih (j+1) (by simp at hj;omega) hW' n' h3 hr ([]::fr) a' ha
   simp only[List.cons_append,hX]at hI
   have hokW:(fromY Y (w::W) j (n,a)).2=true→ok (fromY Y (w::W) j (n,a)).1.2:=fun hb=>by
    simp only[fromY]at hb⊢
    refine(foldB_inv2 (I:=fun p:List Int×σ=>p.1.length=3∧(∀i,i<j→0≤p.1.getD i 0∧p.1.getD i 0≤t.chambers-1)∧ok p.2) (fun p x hx hp hpb=> ?_) ⟨hn,hin,hok⟩ hb).2.2
    obtain⟨p1,p2⟩:=p
    obtain⟨q1,q2,q3⟩:=hp
    simp only at q1 q2 q3 hpb⊢
    have hkw:=hwr _ hx
    have hset:(p1.set j x).length=3:=by rw[List.length_set,q1]
    have hst2: ∀i,i<j+1→0≤(p1.set j x).getD i 0∧(p1.set j x).getD i 0≤t.chambers-1:=fun i hi=>by
     by_cases e:i=j
     ·subst e
      simp only[List.getD,List.getElem?_set,if_true,show i<p1.length by omega]
      exact hkw
     ·have:=q2 i (by omega)
      simp only[List.getD,List.getElem?_set,show¬j=i by omega,if_false]at this⊢
      exact this
    have hkeep:=fromY_keep Y W (j+1) (p1.set j x,p2)
    simp only at hkeep
    refine⟨by rw[hkeep.1];exact hset,fun i hi=> ?_,(ih (j+1) (by simp at hj;omega) hW' _ hset hst2 [] p2 q3).1 hpb⟩
    rw[hkeep.2 i (by omega)]
    exact hst2 i (by omega)
   refine⟨hokW,fun lab=> ?_⟩
   rw[hX,hX]
   have hne: ¬(j:Int)=t.groups.length:=by omega
   have hway:=fun n a lab=>e_ways t hl hg C m o ho (n0.getD j 0) dg lg ([]::X n a) (by have:=(fx n a).2.2.2.2.2.2.2;simp;omega) (by rw[sget_cons,if_neg (by have:=(fx n a).2.2.2.2.2.2.2;omega)];exact(fx n a).2.2.2.1) lab
   rw[←hw]at hway
   obtain⟨z0,z1,z2,hz⟩: ∃x0 x1 x2,n0=[x0,x1,x2]:=by
    match n0,hn0l with
    |[x0,x1,x2],_=>exact⟨x0,x1,x2,rfl⟩
   have key:=fun p0 (hp0:p0.1.length=3∧(∀i,i<j→0≤p0.1.getD i 0∧p0.1.getD i 0≤t.chambers-1)∧ok p0.2)=>loop_list_e (T:=Go.Proofs.YtnglkclmplfnpaaGreat.T) (live:=[0,3,5,26,27,28]) (keep:=[288,416]) (b:=d106l0) w
    (fun _ (p:List Int×σ)=>p.1.length=3∧(∀i,i<j→0≤p.1.getD i 0∧p.1.getD i 0≤t.chambers-1)∧ok p.2)
    (fun k _=>[(0,i64 (j:Nat)),(3, .ptr db (lb+1000) 0),(5, .ptr D 80 0),(26, .sl .no 1 (es cInt w)),(27,i64 w.length),(28,i64 (k:Nat))]) (fun _ p=>[]::X p.1 p.2)
    (fun p x=>fromY Y W (j+1) (p.1.set j x,p.2))
    (fun(g:Ab.Loc) p=>(.ret,[(7, .bool false)],g::X p.1 p.2)) (fun p=>(.exit 0,[(0,i64 (j:Nat)),(3, .ptr db (lb+1000) 0),(5, .ptr D 80 0),(26, .sl .no 1 (es cInt w)),(27,i64 w.length),(28,i64 w.length),(29, .bool false)],[]::X p.1 p.2))
    (by simp) (by simp) ?_ ?_ p0 hp0 [(0,i64 (j:Nat)),(3, .ptr db (lb+1000) 0),(5, .ptr D 80 0),(26, .sl .no 1 (es cInt w)),(27,i64 w.length),(28,i64 0)] ([]::X p0.1 p0.2) (by have:=(fx p0.1 p0.2).2.2.2.2.2.2.2;simp[show¬D=(X p0.1 p0.2).length by omega,show¬db=(X p0.1 p0.2).length by omega]) (by simp)
   ·obtain⟨g,hgk⟩:=key (n,a) ⟨hn,hin,hok⟩
    change Run Go.Proofs.YtnglkclmplfnpaaGreat.T b106l0 _ _=_ at hgk
    simp only[fromY]
    generalize foldB (fun p x=>fromY Y W (j+1) (p.1.set j x,p.2)) w (n,a)=q at hgk
    obtain⟨⟨n',a'⟩,bb⟩:=q
    obtain⟨h64,h80,hgb,hga,hnx,hsc,hput,hD⟩:=fx n a
    have e1: ¬D=(X n a).length:=by omega
    have e2: ¬db=(X n a).length:=by omega
    have e3: ¬dg=(X n a).length:=by omega
    have hw2:=hway n a
    subst hz
    simp only[sceneL,List.map_cons,List.map_nil]at hsc hnx
    rw[den_fn t106 _ _ _ rfl]
    simp only[b106]
    obtain rfl|rfl|rfl:j=0∨j=1∨j=2:=by omega
    ·skip
     simp only[List.getD_cons_zero]at hw2
     have hne2: ¬(0:Int)=t.groups.length:=by omega
     change Run _ _ [(0,i64 0),_,_,_,_,_] _=_ at hgk
     cases bb<;>simp (maxSteps:=1000000) (disch:=first|omega|assumption|decide +kernel|(simp;done)|(simp;omega)|fail) [run_drawnK,orSlow_none,h64,hgb,hga,hnx,hsc,e1,e2,e3,hne2,hw2,hgk]
    ·skip
     simp only[List.getD_cons_succ,List.getD_cons_zero]at hw2
     have hne2: ¬(1:Int)=t.groups.length:=by omega
     change Run _ _ [(0,i64 1),_,_,_,_,_] _=_ at hgk
     cases bb<;>simp (maxSteps:=1000000) (disch:=first|omega|assumption|decide +kernel|(simp;done)|(simp;omega)|fail) [run_drawnK,orSlow_none,h64,hgb,hga,hnx,hsc,e1,e2,e3,hne2,hw2,hgk]
    ·skip
     simp only[List.getD_cons_succ,List.getD_cons_zero]at hw2
     have hne2: ¬(2:Int)=t.groups.length:=by omega
     change Run _ _ [(0,i64 2),_,_,_,_,_] _=_ at hgk
     cases bb<;>simp (maxSteps:=1000000) (disch:=first|omega|assumption|decide +kernel|(simp;done)|(simp;omega)|fail) [run_drawnK,orSlow_none,h64,hgb,hga,hnx,hsc,e1,e2,e3,hne2,hw2,hgk]
   ·intro k p hk hp
    obtain⟨p1,p2⟩:=p
    obtain⟨q1,q2,q3⟩:=hp
    simp only at q1 q2 q3
    have hk2:(k:Int)<w.length:=by omega
    have hkw:=hwr _ (List.getElem_mem hk)
    have hset:(p1.set j w[k]).length=3:=by rw[List.length_set,q1]
    have hst2: ∀i,i<j+1→0≤(p1.set j w[k]).getD i 0∧(p1.set j w[k]).getD i 0≤t.chambers-1:=fun i hi=>by
     by_cases e:i=j
     ·subst e
      simp only[List.getD,List.getElem?_set,if_true,show i<p1.length by omega]
      exact hkw
     ·have:=q2 i (by omega)
      simp only[List.getD,List.getElem?_set,show¬j=i by omega,if_false]at this⊢
      exact this
    obtain⟨hi1,hi2⟩:=hI _ hset hst2 p2 q3
    have hkeep:=fromY_keep Y W (j+1) (p1.set j w[k],p2)
    simp only at hkeep
    obtain⟨h64,h80,hgb,hga,hnx,hsc,hput,hD⟩:=fx p1 p2
    have hD':=fun n a=>(fx n a).2.2.2.2.2.2.2
    have h80':=fun n a=>(fx n a).2.1
    have e1: ∀n a,¬D=(X n a).length:=fun n a=>by have:=hD' n a;omega
    have e2: ∀n a,¬db=(X n a).length:=fun n a=>by have:=hD' n a;omega
    have e3: ∀n a,¬dg=(X n a).length:=fun n a=>by have:=hD' n a;omega
    have hput':=hput (p1.set j w[k])
    obtain⟨x0,x1,x2,rfl⟩: ∃x0 x1 x2,p1=[x0,x1,x2]:=by
     match p1,q1 with
     |[x0,x1,x2],_=>exact⟨x0,x1,x2,rfl⟩
    generalize hx:w[k]=x at*
    simp only[sceneL,List.map_cons,List.map_nil]at hnx hput'
    have hI3: ∀q:(List Int×σ)×Bool,fromY Y W (j+1) ([x0,x1,x2].set j x,p2)=q→q.1.1.length=3∧(∀i,i<j→0≤q.1.1.getD i 0∧q.1.1.getD i 0≤t.chambers-1)∧(q.2=true→ok q.1.2):=fun q e=>by
     rw[e]at hkeep hi1
     refine⟨by rw[hkeep.1];exact hset,fun i hi=> ?_,hi1⟩
     rw[hkeep.2 i (by omega)]
     exact hst2 i (by omega)
    generalize fromY Y W (j+1) ([x0,x1,x2].set j x,p2)=q at*
    obtain⟨⟨n',a'⟩,bb⟩:=q
    have hI4:=hI3 _ rfl
    obtain rfl|rfl|rfl:j=0∨j=1∨j=2:=by omega
    ·skip
     simp only[List.set_cons_zero,List.map_cons,List.map_nil]at hi2 hput'
     change∀lab,den _ _ [i64 1,_,_,_,_,_] lab _=_ at hi2
     refine⟨fun hb=>⟨?_,hI4.1,hI4.2.1,hI4.2.2 hb⟩,fun hb=>⟨[],?_⟩⟩<;>simp only at hb<;>subst hb
     ·simp (maxSteps:=1000000) (disch:=first|omega|assumption|decide +kernel|(simp;done)|(simp;omega)|fail) [hk,hk2,hx,hnx,hput',h80',e1,e2,e3,hi2,wk k (by omega),wi]
     ·simp (maxSteps:=1000000) (disch:=first|omega|assumption|decide +kernel|(simp;done)|(simp;omega)|fail) [hk,hk2,hx,hnx,hput',h80',e1,e2,e3,hi2,wk k (by omega),wi]
    ·skip
     simp only[List.set_cons_zero,List.set_cons_succ,List.map_cons,List.map_nil]at hi2 hput'
     change∀lab,den _ _ [i64 2,_,_,_,_,_] lab _=_ at hi2
     refine⟨fun hb=>⟨?_,hI4.1,hI4.2.1,hI4.2.2 hb⟩,fun hb=>⟨[],?_⟩⟩<;>simp only at hb<;>subst hb
     ·simp (maxSteps:=1000000) (disch:=first|omega|assumption|decide +kernel|(simp;done)|(simp;omega)|fail) [hk,hk2,hx,hnx,hput',h80',e1,e2,e3,hi2,wk k (by omega),wi]
     ·simp (maxSteps:=1000000) (disch:=first|omega|assumption|decide +kernel|(simp;done)|(simp;omega)|fail) [hk,hk2,hx,hnx,hput',h80',e1,e2,e3,hi2,wk k (by omega),wi]
    ·skip
     simp only[List.set_cons_zero,List.set_cons_succ,List.map_cons,List.map_nil]at hi2 hput'
     change∀lab,den _ _ [i64 3,_,_,_,_,_] lab _=_ at hi2
     refine⟨fun hb=>⟨?_,hI4.1,hI4.2.1,hI4.2.2 hb⟩,fun hb=>⟨[],?_⟩⟩<;>simp only at hb<;>subst hb
     ·simp (maxSteps:=1000000) (disch:=first|omega|assumption|decide +kernel|(simp;done)|(simp;omega)|fail) [hk,hk2,hx,hnx,hput',h80',e1,e2,e3,hi2,wk k (by omega),wi]
     ·simp (maxSteps:=1000000) (disch:=first|omega|assumption|decide +kernel|(simp;done)|(simp;omega)|fail) [hk,hk2,hx,hnx,hput',h80',e1,e2,e3,hi2,wk k (by omega),wi]
   ·intro p hp
    simp
end Go.Proofs.YtnglkclmplfnpaaGreat

/-
  Doors: the moves as a list; the program's moves.
-/
namespace Go.Proofs.YtnglkclmplfnpaaGreat
open Go.Ab
theorem foldB_one {α σ:Type}(f:σ→α→σ×Bool)(x:α)(a:σ):foldB f [x] a=f a x:=by
 simp only[foldB]
 split
 ·rename_i h
  rw[←h]
 ·rfl
theorem foldB_map {α β σ:Type}(f:σ→β→σ×Bool)(g:α→β): ∀(l:List α) (a:σ),foldB f (l.map g) a=foldB (fun a x=>f a (g x)) l a
 |[],_=>rfl
 |x::l,a=>by simp only[List.map_cons,foldB,foldB_map f g l]
theorem set_take {n:List Int} {j:Nat} {x:Int}(h:j<n.length):(n.set j x).take (j+1)=n.take j ++[x]:=by
 apply List.ext_getElem?
 intro i
 rw[List.getElem?_take,List.getElem?_set,List.getElem?_append,List.length_take,Nat.min_eq_left (by omega)]
 by_cases h1:i<j
 ·rw[if_pos (by omega),if_neg (by omega),if_pos h1,List.getElem?_take,if_pos h1]
 ·rw[if_neg h1]
  by_cases h2:i=j
  ·subst h2;simp[h]
  ·rw[if_neg (by omega)]
   simp[show i-j≠0 by omega]
theorem set_drop {n:List Int} {j k:Nat} {x:Int}(h:j<k):(n.set j x).drop k=n.drop k:=by
 apply List.ext_getElem?
 intro i
 rw[List.getElem?_drop,List.getElem?_drop,List.getElem?_set,if_neg (by omega)]
theorem foldB_rel {α σ τ:Type} {f:σ→α→σ×Bool} {g:τ→α→τ×Bool}(R:σ→τ→Prop): ∀ {l:List α} {a:σ} {b:τ},(∀a b x,x∈l→R a b→R (f a x).1 (g b x).1∧(f a x).2=(g b x).2)→R a b→R (foldB f l a).1 (foldB g l b).1∧(foldB f l a).2=(foldB g l b).2
 |[],a,b,_,h=>⟨h,rfl⟩
 |x::l,a,b,hs,h=>by
   obtain⟨h1,h2⟩:=hs a b x (by simp) h
   simp only[foldB,h2]
   split
   ·exact foldB_rel R (fun a b y hy=>hs a b y (by simp[hy])) h1
   ·exact⟨h1,h2⟩
theorem fromY_fold {σ:Type}(Y:σ→List Int→σ×Bool): ∀(W:List (List Int)) (j:Nat) (p:List Int×σ),j+W.length≤p.1.length→
 ((fromY Y W j p).1.2=(foldB (fun s m=>Y s (p.1.take j ++m ++p.1.drop (j+W.length))) (movesS W) p.2).1∧(fromY Y W j p).2=(foldB (fun s m=>Y s (p.1.take j ++m ++p.1.drop (j+W.length))) (movesS W) p.2).2)∧
   (fromY Y W j p).1.1.length=p.1.length∧(fromY Y W j p).1.1.take j=p.1.take j∧(fromY Y W j p).1.1.drop (j+W.length)=p.1.drop (j+W.length)
 |[],j,p,h=>by
   simp only[fromY,movesS,foldB_one,List.length_nil,Nat.add_zero,List.append_nil,List.take_append_drop,and_self]
 |w::W,j,p,h=>by
   simp only[List.length_cons]at h
   simp only[fromY,movesS,List.length_cons]
   rw[foldB_flatMap]
   have key:=foldB_rel (f:=fun p x=>fromY Y W (j+1) (p.1.set j x,p.2)) (g:=fun a x=>foldB (fun s m=>Y s (p.1.take j ++m ++p.1.drop (j+(W.length+1)))) ((movesS W).map (x:: ·)) a)
    (fun(q:List Int×σ) (s:σ)=>q.2=s∧q.1.length=p.1.length∧q.1.take j=p.1.take j∧q.1.drop (j+(W.length+1))=p.1.drop (j+(W.length+1))) (l:=w) (a:=p) (b:=p.2) (fun q s x hx hq=> ?_) ⟨rfl,rfl,rfl,rfl⟩
   ·obtain⟨⟨k1,k2,k3,k4⟩,k5⟩:=key
    exact⟨⟨k1,k5⟩,k2,k3,k4⟩
   ·obtain⟨q1,q2⟩:=q
    obtain⟨rfl,h1,h2,h3⟩:=hq
    simp only at h1 h2 h3
    obtain⟨⟨k1,k2⟩,k3,k4,k5⟩:=fromY_fold Y W (j+1) (q1.set j x,q2) (by simp only[List.length_set];omega)
    simp only at k1 k2 k3 k4 k5
    have e1:(q1.set j x).take (j+1)=p.1.take j ++[x]:=by rw[set_take (by omega),h2]
    have e2:(q1.set j x).drop (j+1+W.length)=p.1.drop (j+(W.length+1)):=by rw[set_drop (by omega),←h3];congr 1;omega
    have e3:(fun(s:σ) (m:List Int)=>Y s ((q1.set j x).take (j+1) ++m ++(q1.set j x).drop (j+1+W.length)))=fun s m=>Y s (p.1.take j ++x::m ++p.1.drop (j+(W.length+1))):=by
     funext s m
     rw[e1,e2]
     simp
    rw[e3]at k1 k2
    rw[foldB_map]
    refine⟨⟨k1,by rw[k3,List.length_set,h1],?_,?_⟩,k2⟩
    ·have:=congrArg (List.take j) k4
     rw[List.take_take,Nat.min_eq_left (by omega),e1,List.take_append_of_le_length (by simp;omega),List.take_take,Nat.min_self]at this
     exact this
    ·rw[e2,show j+1+W.length=j+(W.length+1)by omega]at k5
     exact k5
theorem fromY_all {σ:Type}(Y:σ→List Int→σ×Bool)(W:List (List Int))(n:List Int)(a:σ)(h:W.length≤n.length):
 (fromY Y W 0 (n,a)).1.2=(foldB (fun s m=>Y s (m ++n.drop W.length)) (movesS W) a).1∧(fromY Y W 0 (n,a)).2=(foldB (fun s m=>Y s (m ++n.drop W.length)) (movesS W) a).2∧(fromY Y W 0 (n,a)).1.1.length=n.length:=by
 obtain⟨⟨h1,h2⟩,h3,_⟩:=fromY_fold Y W 0 (n,a) (by simpa using h)
 simp only[List.take_zero,List.nil_append,Nat.zero_add]at h1 h2 h3
 exact⟨h1,h2,h3⟩
set_option maxHeartbeats 4000000 in
theorem e_moves(T1:Int)(o c:Nat)(hT:1≤T1∧T1≤4)(n0 n1 n2:Int)(ho:o<32)(hc:c<32)(d l:Nat)(lab)(loc:Ab.Loc)(s:Stk)(hd:d≤s.length)(k0:loc.get lab=none)(k1:loc.get (lab+1000)=none)(k2:loc.get (lab+2000)=none):
 den T 81 [.ptr d l 0, .agg (sceneL T1 (o:Nat) [n0,n1,n2]),i64 (c:Nat)] lab (loc::s)=
  some (.fn 105 [] [.ptr s.length lab 0, .ptr s.length (lab+1000) 0, .ptr s.length (lab+2000) 0],
   (Loc.put (Loc.put (Loc.put loc lab (.cell [.ptr d l 0])) (lab+1000) (.cell (sceneL (T1-1) (xorN o c:Nat) [n0,n1,n2]))) (lab+2000) (.cell (sceneL T1 (o:Nat) [n0,n1,n2])))::s):=by
 have hx:=bxor (a:=o) (b:=c) (by omega) (by omega)
 rw[den_fn t81 _ _ _ rfl]
 simp only[b81]
 simp only[sceneL,List.map_cons,List.map_nil]
 simp (maxSteps:=1000000) (disch:=first|omega|assumption|decide +kernel|(simp;done)|(simp;omega)|fail) [hx,wi,k0,k1,k2,newLab,idxOf,dedup,-bin_xor,show¬d=s.length+1 by omega]
end Go.Proofs.YtnglkclmplfnpaaGreat

/-
  Doors: a loop over the moves.
-/
namespace Go.Proofs.YtnglkclmplfnpaaGreat
open Go.Ab
abbrev movesO(t:DTrap)(o:Nat)(n:List Int):List (List Int):=movesS ((n.take t.groups.length).map (waysS t.chambers.toNat (openG o t.gates)))
abbrev foldD {σ:Type}(t:DTrap)(o:Nat)(n:List Int)(Y:σ→List Int→σ×Bool)(a:σ):σ×Bool:=foldB (fun s m=>Y s (m ++n.drop t.groups.length)) (movesO t o n) a
set_option maxHeartbeats 4000000 in
theorem e_loopD(t:DTrap)(h:DoorOk t) {C:List Int} {m:V} {σ:Type} {d l db lb dg lg D:Nat} {T' o' T1:Int} {o:Nat}(ho:o<32) {n0:List Int}(hn0:InN t n0)
 {St:List Int→σ→Stk} {Y:σ→List Int→σ×Bool} {ok:σ→Prop} (y:YieldD t C m σ d l db lb dg lg D T' o' T1 (o:Nat) n0 St Y ok) (a:σ) (ha:ok a):
 ∃n',n'.length=3∧ ∀lab,den T 105 [.yld d l, .ptr db lb 0, .ptr db (lb+1000) 0, .ptr db (lb+2000) 0] lab (St n0 a)=some (.tup [],St n' (foldD t o n0 Y a).1):=by
 have hW:((n0.take t.groups.length).map (waysS t.chambers.toNat (openG o t.gates))).length=t.groups.length:=by have:=h.ol;have:=hn0.1;simp;omega
 have hf:=fun lab=>(e_fromD t h.ch.2 h.gl h.ol h.gates ho hn0 y ((n0.take t.groups.length).map (waysS t.chambers.toNat (openG o t.gates))) 0 (by rw[hW];omega) (by simp) n0 hn0.1 (fun i hi=>absurd hi (by omega)) [] a ha).2 lab
 obtain⟨f1,f2,f3⟩:=fromY_all Y ((n0.take t.groups.length).map (waysS t.chambers.toNat (openG o t.gates))) n0 a (by rw[hW];have:=h.ol;have:=hn0.1;omega)
 rw[hW]at f1
 refine⟨(fromY Y ((n0.take t.groups.length).map (waysS t.chambers.toNat (openG o t.gates))) 0 (n0,a)).1.1,by rw[f3,hn0.1],fun lab=> ?_⟩
 rw[f1]at hf
 have hl:=y.len n0 a
 have h1:=y.ltd
 have h2:=y.ltb
 simp only[foldD]
 generalize fromY Y _ 0 (n0,a)=q at*
 generalize foldB _ _ a=r at*
 generalize St q.1.1 r.1=X' at*
 generalize St n0 a=X at*
 subst hl
 simp only[List.nil_append,movesFrame]at hf
 change∀lab,den _ _ [i64 0,_,_,_,_,_] lab _=_ at hf
 have e1: ¬d=X.length:=by omega
 have e2: ¬db=X.length:=by omega
 rw[den_fn t105 _ _ _ rfl]
 simp only[b105]
 simp (maxSteps:=1000000) (disch:=first|omega|assumption|decide +kernel|(simp;done)|(simp;omega)|fail) [e1,e2,hf]
end Go.Proofs.YtnglkclmplfnpaaGreat

/-
  Doors: what is remembered; after.
-/
namespace Go.Proofs.YtnglkclmplfnpaaGreat
open Go.Ab
theorem kvGet_put(k:List Int)(v:Int): ∀(kvs:List (List Int×Int)) (k2:List Int),kvGet (kvPut kvs k v) k2=if k2=k then some v else kvGet kvs k2
 |[],k2=>by simp[kvPut,kvGet]
 |x::r,k2=>by
   simp only[kvPut]
   by_cases h:k=x.1
   ·subst h
    rw[if_pos rfl]
    simp only[kvGet]
    split<;>rfl
   ·rw[if_neg h]
    simp only[kvGet]
    rw[kvGet_put k v r k2]
    by_cases h2:k2=x.1
    ·rw[if_pos h2,if_pos h2,if_neg (fun e=>h (e.symm.trans h2))]
    ·rw[if_neg h2,if_neg h2]
def Right(W:List Int→Int)(K:List (List Int×Int)):Prop:= ∀k v,kvGet K k=some v→v=W k
abbrev Mem(W:List Int→Int):= {K:List (List Int×Int)//Right W K}
def Mem.nil {W:List Int→Int}:Mem W:=⟨[],fun _ _ h=>by cases h⟩
def Mem.put {W:List Int→Int}(K:Mem W)(k:List Int):Mem W:=⟨kvPut K.1 k (W k),fun k2 v h=>by
 rw[kvGet_put]at h
 split at h
 ·rename_i e;cases h;rw[e]
 ·exact K.2 _ _ h⟩
structure GameD(t:DTrap)(C:List Int)(m:V)(dg lg dm lm L:Nat)(S:List (List Int×Int)→Stk):Prop where
 len: ∀K,(S K).length=L
 ltg:dg<L
 ltm:dm<L
 game: ∀K,sget (S K) dg lg=some (.cell (gameV t C m))
 mem: ∀K,sget (S K) dm lm=some (.mp (some 5) K)
 put: ∀K K',sput (S K) dm lm (.mp (some 5) K')=S K'
theorem GameD.push {t C m dg lg dm lm L S}(G:GameD t C m dg lg dm lm L S)(X:Stk):GameD t C m dg lg dm lm (X.length+L) (fun K=>X ++S K) where
 len:=fun K=>by rw[List.length_append,G.len]
 ltg:=by have:=G.ltg;omega
 ltm:=by have:=G.ltm;omega
 game:=fun K=>by rw[sget_append _ _ _ _ (by rw[G.len];exact G.ltg),G.game]
 mem:=fun K=>by rw[sget_append _ _ _ _ (by rw[G.len];exact G.ltm),G.mem]
 put:=fun K K'=>by rw[sput_append _ _ _ _ _ (by rw[G.len];exact G.ltm),G.put]
def wO(t:DTrap)(k o:Nat)(n:List Int):Int:=worthS t.chambers.toNat t.hands.toNat (fishL t) k (openG o t.gates) (n.take t.groups.length)
def lO(t:DTrap)(k o:Nat)(n:List Int):Int:=leastS t.chambers.toNat t.hands.toNat (fishL t) k (openG o t.gates) (n.take t.groups.length)
def wKey(t:DTrap):List Int→Int
 |[k,o,a,b,c]=>wO t k.toNat o.toNat [a,b,c]
 |_=>0
abbrev MemW(t:DTrap):=Mem (wKey t)
theorem wO_range {t:DTrap}(h:DoorOk t)(k o n):0≤wO t k o n∧wO t k o n≤297:=by
 have hf: ∀f∈fishL t,0≤f∧f≤99:=fun f hf=>by
  obtain⟨g,hg,rfl⟩:=List.mem_map.1 hf
  exact(h.groups g hg).2
 have h1:=worthS_nonneg (n:=t.chambers.toNat) (h:=t.hands.toNat) (fun f hx=>(hf f hx).1) k (openG o t.gates) (n.take t.groups.length)
 have h2:=worthS_le (n:=t.chambers.toNat) (h:=t.hands.toNat) (fun f hx=>(hf f hx).1) k (openG o t.gates) (n.take t.groups.length)
 have key: ∀l:List Int,(∀f∈l,0≤f∧f≤99)→sumF l≤99*l.length:=by
  intro l
  induction l with
  |nil=>intro _;simp[sumF]
  |cons x r ih=>
    intro hh
    have:=ih fun f hf=>hh f (by simp[hf])
    have:=hh x (by simp)
    simp only[sumF,List.foldr_cons,List.length_cons]at*
    omega
 have h3:=key _ hf
 have h4:(fishL t).length≤3:=by simpa [fishL]using h.ol
 unfold wO
 omega
def ValD(t:DTrap)(C:List Int)(k:Nat)(f:Nat→List Int→MemW t→MemW t):Prop:= ∀ {m:V} {dg lg dm lm L:Nat} {S:List (List Int×Int)→Stk},GameD t C m dg lg dm lm L S→gmp m= .mp (.ptr dm lm 0)→
 ∀(o:Nat) (n:List Int) (K:MemW t) (lab:Nat),o<32→InN t n→den T 49 [.ptr dg lg 0, .agg (sceneL (k:Nat) (o:Nat) n)] lab (S K.1)=some (i64 (wO t k o n),S (f o n K).1)
def minY(a x:Int):Int:=if a<0∨x<a then x else a
def aftY(t:DTrap)(k o:Nat)(f:Nat→List Int→MemW t→MemW t)(p:Int×MemW t)(m:List Int):Int×MemW t:=(minY p.1 (wO t k o m),f o m p.2)
def aftF(dg lg L:Nat)(T1:Int)(o o2:Nat)(n0 n:List Int)(x:LoopState)(least:Int):Ab.Loc:=
 [(48, .cell [.ptr dg lg 0]),(64, .cell (sceneL T1 (o:Nat) n0)),(112, .cell [i64 least]),(208, .cell [.ptr dg lg 0]),(1208, .cell (sceneL (T1-1) (o2:Nat) n)),(2208, .cell (sceneL T1 (o:Nat) n0)),
  (17415, .loop [14] b68l0 b68l1 [(3, .ptr L 48 0),(7, .ptr L 112 0),(13, .fn 105 [] [.ptr L 208 0, .ptr L 1208 0, .ptr L 2208 0])] x none)]
set_option maxHeartbeats 4000000 in
theorem after_yield(t:DTrap)(h:DoorOk t)(C:List Int)(k:Nat)(f)(hf:ValD t C k f) {m:V} {dg lg dm lm L:Nat} {S:List (List Int×Int)→Stk}(G:GameD t C m dg lg dm lm L S)(hm:gmp m= .mp (.ptr dm lm 0))
 (T1:Int) (hk:T1-1=(k:Nat)) (o o2:Nat) (ho2:o2<32) (n0:List Int):
 YieldD t C m (Int×MemW t) L 17415 L 208 dg lg (L+1) T1 (o:Nat) (T1-1) (o2:Nat) n0 (fun n a=>aftF dg lg L T1 o o2 n0 n .ready a.1::S a.2.1) (fun a m=>(aftY t k o2 f a m,true)) (fun _=>True) where
 len:=fun n a=>by simp[G.len]
 ltd:=by omega
 ltb:=by omega
 ltg:=by have:=G.ltg;omega
 gbox:=fun n a=>by rw[←G.len a.2.1,sget_top];rfl
 game:=fun n a=>by rw[sget_cons,if_neg (by rw[G.len];have:=G.ltg;omega),G.game]
 next:=fun n a=>by rw[←G.len a.2.1,sget_top];rfl
 scene:=fun n a=>by rw[←G.len a.2.1,sget_top];rfl
 put:=fun n n' a=>by
  have e:=G.len a.2.1
  rw[show sput (aftF dg lg L T1 o o2 n0 n .ready a.1::S a.2.1) L (208+1000) (.cell (sceneL (T1-1) (o2:Nat) n'))=sput (aftF dg lg L T1 o o2 n0 n .ready a.1::S a.2.1) (S a.2.1).length (208+1000) (.cell (sceneL (T1-1) (o2:Nat) n'))by rw[e],sput_top];rfl
 keep:=fun _ _ _ _ _=>trivial
 yield:=fun fr n a lab hn _=>by
  obtain⟨a,K⟩:=a
  have hL:=G.len K.1
  have top: ∀(x:LoopState) a (K:MemW t) l',sget (fr ++aftF dg lg L T1 o o2 n0 n x a::S K.1) L l'=(aftF dg lg L T1 o o2 n0 n x a).get l':=fun x a K l'=>by
   rw[sget_append _ _ _ _ (by simp[G.len]),←G.len K.1,sget_top]
  have put: ∀(x:LoopState) a (K:MemW t) l' en,sput (fr ++aftF dg lg L T1 o o2 n0 n x a::S K.1) L l' en=fr ++(aftF dg lg L T1 o o2 n0 n x a).put l' en::S K.1:=fun x a K l' en=>by
   rw[sput_append _ _ _ _ _ (by simp[G.len])]
   rw[show sput (aftF dg lg L T1 o o2 n0 n x a::S K.1) L l' en=sput (aftF dg lg L T1 o o2 n0 n x a::S K.1) (S K.1).length l' en by rw[G.len],sput_top]
  have hlen: ∀(x:LoopState) a (K:MemW t),L<(fr ++aftF dg lg L T1 o o2 n0 n x a::S K.1).length:=fun x a K=>by simp[G.len];omega
  have hlen2: ∀(x:LoopState) a (K:MemW t),¬L=(fr ++aftF dg lg L T1 o o2 n0 n x a::S K.1).length:=fun x a K=>by have:=hlen x a K;omega
  have hv:=fun lab=>hf (G.push ([(128, .cell (sceneL (T1-1) (o2:Nat) n))]::(fr ++[aftF dg lg L T1 o o2 n0 n .busy a]))) hm o2 n K lab ho2 hn
  rw[←hk]at hv
  simp only[List.cons_append,List.append_assoc,List.nil_append]at hv
  have hw:=wO_range h k o2 n
  obtain⟨x0,x1,x2,rfl⟩: ∃x0 x1 x2,n=[x0,x1,x2]:=by
   match n,hn.1 with
   |[x0,x1,x2],_=>exact⟨x0,x1,x2,rfl⟩
  have B: ∃e,Run T b68l1 [(3, .ptr L 48 0),(7, .ptr L 112 0),(8, .ptr (fr ++aftF dg lg L T1 o o2 n0 [x0,x1,x2] .busy a::S K.1).length 128 0)] ([(128, .cell (sceneL (T1-1) (o2:Nat) [x0,x1,x2]))]::(fr ++aftF dg lg L T1 o o2 n0 [x0,x1,x2] .busy a::S K.1))=
   some (.normal,e,[(128, .cell (sceneL (T1-1) (o2:Nat) [x0,x1,x2]))]::(fr ++aftF dg lg L T1 o o2 n0 [x0,x1,x2] .busy (minY a (wO t k o2 [x0,x1,x2]))::S (f o2 [x0,x1,x2] K).1)):=by
   have g48: ∀K:MemW t,sget (fr ++aftF dg lg L T1 o o2 n0 [x0,x1,x2] .busy a::S K.1) L 48=some (.cell [.ptr dg lg 0]):=fun K=>by rw[top];rfl
   have g112: ∀K:MemW t,sget (fr ++aftF dg lg L T1 o o2 n0 [x0,x1,x2] .busy a::S K.1) L 112=some (.cell [i64 a]):=fun K=>by rw[top];rfl
   have p112: ∀(K:MemW t) v,sput (fr ++aftF dg lg L T1 o o2 n0 [x0,x1,x2] .busy a::S K.1) L 112 (.cell [i64 v])=fr ++aftF dg lg L T1 o o2 n0 [x0,x1,x2] .busy v::S K.1:=fun K v=>by rw[put];rfl
   have hd:=G.ltg
   simp only[b68l1]
   obtain⟨X,hX⟩: ∃X:Int→MemW t→Stk,∀v (K:MemW t),fr ++aftF dg lg L T1 o o2 n0 [x0,x1,x2] .busy v::S K.1=X v K:=⟨_,fun _ _=>rfl⟩
   simp only[hX]at g48 g112 p112 hv⊢
   have hL2: ∀v K,¬L=(X v K).length:=fun v K=>by rw[←hX];exact hlen2 .busy v K
   unfold minY
   generalize wO t k o2 [x0,x1,x2]=w at*
   generalize f o2 [x0,x1,x2] K=K' at*
   simp only[sceneL,List.map_cons,List.map_nil]at hv⊢
   by_cases x0:a<0
   ·refine⟨[(7, .ptr L 112 0)],?_⟩
    simp (maxSteps:=1000000) (disch:=first|omega|assumption|decide +kernel|(simp;done)|(simp;omega)|fail) [g48,g112,p112,hL2,hv,x0]
   ·by_cases x1:w<a
    ·refine⟨[(7, .ptr L 112 0)],?_⟩
     simp (maxSteps:=1000000) (disch:=first|omega|assumption|decide +kernel|(simp;done)|(simp;omega)|fail) [g48,g112,p112,hL2,hv,x0,x1]
    ·refine⟨[(7, .ptr L 112 0),(9,i64 w),(24, .bool false)],?_⟩
     simp (maxSteps:=1000000) (disch:=first|omega|assumption|decide +kernel|(simp;done)|(simp;omega)|fail) [g48,g112,p112,hL2,hv,x0,x1]
  obtain⟨e,hB⟩:=B
  refine(yld_run (ps:=[14]) (A:=b68l0) (B:=b68l1) (env:=[(3, .ptr L 48 0),(7, .ptr L 112 0),(13, .fn 105 [] [.ptr L 208 0, .ptr L 1208 0, .ptr L 2208 0])]) (ex:= .normal) (st:= .busy) (p:=none)
   (s3:=fr ++aftF dg lg L T1 o o2 n0 [x0,x1,x2] .busy (minY a (wO t k o2 [x0,x1,x2]))::S (f o2 [x0,x1,x2] K).1) (by rw[top];rfl) rfl (e1:=[(3, .ptr L 48 0),(7, .ptr L 112 0),(8, .ptr (fr ++aftF dg lg L T1 o o2 n0 [x0,x1,x2] .ready a::S K.1).length 128 0)]) (fr1:=[(128, .cell (sceneL (T1-1) (o2:Nat) [x0,x1,x2]))]) ?_ (hlen _ _ _) (e2:=e) (fr2:=[(128, .cell (sceneL (T1-1) (o2:Nat) [x0,x1,x2]))]) ?_ (by rw[top];rfl)).trans ?_
  ·simp[b68l0,bindEnv]
  ·rw[put]
   rw[show(fr ++aftF dg lg L T1 o o2 n0 [x0,x1,x2] .busy a::S K.1).length=(fr ++aftF dg lg L T1 o o2 n0 [x0,x1,x2] .ready a::S K.1).length by simp]at hB
   exact hB
  ·rw[put];rfl
end Go.Proofs.YtnglkclmplfnpaaGreat

/-
  Doors: after.
-/
namespace Go.Proofs.YtnglkclmplfnpaaGreat
open Go.Ab
theorem foldB_true {α σ:Type}(f:σ→α→σ): ∀(l:List α) (a:σ),foldB (fun a x=>(f a x,true)) l a=(l.foldl f a,true)
 |[],_=>rfl
 |x::l,a=>by simp only[foldB,if_true,foldB_true f l,List.foldl_cons]
theorem minY_fold: ∀(l:List Int) (a:Int),0≤a→(∀x∈l,0≤x)→l.foldl minY a=minL (a::l)
 |[],a,_,_=>rfl
 |x::r,a,ha,h=>by
   have hx:=h x (by simp)
   rw[List.foldl_cons,minY_fold r _ (by unfold minY;split<;>omega) fun y hy=>h y (by simp[hy])]
   have e:minY a x=min a x:=by unfold minY;split<;>omega
   rw[e,minL_cons,minL_cons,if_neg (List.cons_ne_nil x r),minL_cons]
   split
   ·rfl
   ·omega
theorem minY_all {l:List Int}(hl:l≠[])(h: ∀x∈l,0≤x):l.foldl minY (-1)=minL l:=by
 cases l with
 |nil=>exact absurd rfl hl
 |cons x r=>
   have hx:=h x (by simp)
   rw[List.foldl_cons,show minY (-1) x=x by simp[minY],minY_fold r x hx fun y hy=>h y (by simp[hy])]
def aftK(t:DTrap)(f:Nat→List Int→MemW t→MemW t)(o:Nat)(n:List Int)(K:MemW t):MemW t:=(movesO t o n).foldl (fun K m=>f o (m ++n.drop t.groups.length) K) K
theorem moves_len {t:DTrap}(h:DoorOk t) {o:Nat} {n m:List Int}(hn:InN t n)(hm:m∈movesO t o n):m.length=t.groups.length:=by
 have:=(mem_moves.1 hm).1
 rw[List.length_take,hn.1]at this
 have:=h.ol
 omega
theorem moves_take {t:DTrap}(h:DoorOk t) {o:Nat} {n m:List Int}(hn:InN t n)(hm:m∈movesO t o n):(m ++n.drop t.groups.length).take t.groups.length=m:=by
 have hl:=moves_len h hn hm
 rw[List.take_append_of_le_length (by omega),List.take_of_length_le (by omega)]
theorem fold_pair {α σ τ:Type}(f:σ→α→σ)(g:τ→α→τ): ∀(l:List α) (a:σ) (b:τ),l.foldl (fun(p:σ×τ) x=>(f p.1 x,g p.2 x)) (a,b)=(l.foldl f a,l.foldl g b)
 |[],_,_=>rfl
 |x::l,a,b=>by simp only[List.foldl_cons,fold_pair f g l]
theorem after_fold {t:DTrap}(h:DoorOk t)(k o:Nat)(f:Nat→List Int→MemW t→MemW t) {n:List Int}(hn:InN t n)(K:MemW t):
 foldD t o n (fun a m=>(aftY t k o f a m,true)) (-1,K)=((lO t k o n,aftK t f o n K),true):=by
 unfold foldD
 rw[foldB_true (fun a m=>aftY t k o f a (m ++n.drop t.groups.length))]
 unfold aftY
 rw[fold_pair (fun a m=>minY a (wO t k o (m ++n.drop t.groups.length))) (fun K m=>f o (m ++n.drop t.groups.length) K)]
 congr 2
 rw[←List.foldl_map (f:=fun m=>wO t k o (m ++n.drop t.groups.length)) (g:=minY)]
 have e:(movesO t o n).map (fun m=>wO t k o (m ++n.drop t.groups.length))=(movesO t o n).map (worthS t.chambers.toNat t.hands.toNat (fishL t) k (openG o t.gates)):=by
  apply List.map_congr_left
  intro m hm
  unfold wO
  rw[moves_take h hn hm]
 rw[e,minY_all (by simpa using moves_ne _ _ _)]
 ·rfl
 ·intro x hx
  obtain⟨m,hm,rfl⟩:=List.mem_map.1 hx
  refine worthS_nonneg (fun f hf=> ?_) _ _ _
  obtain⟨g,hg,rfl⟩:=List.mem_map.1 hf
  exact(h.groups g hg).2.1
set_option maxHeartbeats 4000000 in
theorem e_after {t:DTrap}(h:DoorOk t) {C:List Int} {k:Nat}(hk:k<4) {f}(hf:ValD t C k f) {m:V} {dg lg dm lm L:Nat} {S:List (List Int×Int)→Stk}(G:GameD t C m dg lg dm lm L S)(hmm:gmp m= .mp (.ptr dm lm 0))
 (o c:Nat) (ho:o<32) (hc:c<32) {n:List Int} (hn:InN t n) (K:MemW t) (lab):
 den T 68 [.ptr dg lg 0, .agg (sceneL ((k+1:Nat):Int) (o:Nat) n),i64 (c:Nat)] lab (S K.1)=some (i64 (lO t k (xorN o c) n),S (aftK t f (xorN o c) n K).1):=by
 have ho2:xorN o c<32:=Nat.xor_lt_two_pow (n:=5) ho hc
 have hkk:((k+1:Nat):Int)-1=(k:Nat):=by omega
 have y:=after_yield t h C k f hf G hmm ((k+1:Nat):Int) hkk o (xorN o c) ho2 n
 rw[hkk]at y
 obtain⟨n',hn',hl⟩:=e_loopD t h ho2 hn y (-1,K) trivial
 rw[after_fold h k (xorN o c) f hn K]at hl
 generalize lO t k (xorN o c) n=r at*
 generalize aftK t f (xorN o c) n K=K' at*
 have hL:=G.len
 have hd:=G.ltg
 obtain⟨x0,x1,x2,rfl⟩: ∃x0 x1 x2,n=[x0,x1,x2]:=by
  match n,hn.1 with
  |[x0,x1,x2],_=>exact⟨x0,x1,x2,rfl⟩
 have hm:=fun(loc:Ab.Loc) lab=>e_moves ((k+1:Nat):Int) o c (by omega) x0 x1 x2 ho hc dg lg lab loc (S K.1) (by rw[hL];omega)
 rw[hkk]at hm
 simp only[hL]at hm
 simp only[aftF,hkk]at hl
 generalize xorN o c=o2 at*
 have e1: ¬dg=L:=by omega
 simp only[sceneL,List.map_cons,List.map_nil,Nat.reduceAdd]at hl hm⊢
 generalize ((k+1:Nat):Int)=T1 at*
 rw[den_fn t68 _ _ _ rfl]
 simp only[b68]
 simp (maxSteps:=1000000) (disch:=first|omega|assumption|decide +kernel|(simp;done)|(simp;omega)|fail) [run_drawnK,orSlow_none,hL,hm,hl,e1]
end Go.Proofs.YtnglkclmplfnpaaGreat

/-
  Doors: value.
-/
namespace Go.Proofs.YtnglkclmplfnpaaGreat
open Go.Ab
theorem mem_bitsL {g:Nat} {i:Nat}:(i:Int)∈bitsL g↔i<5∧g.testBit i=true:=by
 simp only[bitsL,List.mem_map,List.mem_filter,List.mem_range]
 constructor
 ·rintro⟨j,h,e⟩
  obtain rfl:j=i:=by omega
  exact h
 ·exact fun h=>⟨i,h,rfl⟩
theorem open_flip {gs:List DGate}(hg:gs.length≤5)(o:Nat) {c:List Int}(hc:c∈allL 5):openG (xorN o (maskL c)) gs=flipG (openG o gs) c:=by
 apply List.ext_getElem?
 intro i
 rw[flipS_get,openS_get,openS_get,Nat.zero_add]
 by_cases hi:i<gs.length
 ·rw[List.getElem?_eq_getElem hi]
  simp only[Option.map_some]
  have hm:=mem_bitsL (g:=maskL c) (i:=i)
  rw[bits_mask c hc]at hm
  have hx:(xorN o (maskL c)).testBit i=((o.testBit i)^^((maskL c).testBit i)):=by unfold xorN;exact Nat.testBit_xor ..
  rw[hx]
  by_cases h:(i:Int)∈c
  ·rw[if_pos h,(hm.1 h).2];cases o.testBit i<;>rfl
  ·rw[if_neg h]
   have:(maskL c).testBit i=false:=by
    cases e:(maskL c).testBit i
    ·rfl
    ·exact absurd (hm.2 ⟨by omega,e⟩) h
   rw[this];cases o.testBit i<;>rfl
 ·rw[List.getElem?_eq_none (by omega)];rfl
abbrev cN(t:DTrap):List Nat:=changesB t.hands.toNat t.gates.length
theorem cN_lt {t:DTrap}(h:DoorOk t) {c:Nat}(hc:c∈cN t):c<32:=by
 obtain⟨l,hl,rfl⟩:=List.mem_map.1 hc
 exact mask_lt 5 (by decide) l (choices_up (by have:=h.gl;omega) hl)
theorem maxL_fold: ∀(l:List Int) (a:Int),0≤a→l.foldl max a=max a (maxL l)
 |[],a,h=>by simp[maxL];omega
 |x::r,a,h=>by
   rw[List.foldl_cons,maxL_fold r _ (by omega)]
   simp only[maxL];omega
theorem wO_succ {t:DTrap}(h:DoorOk t)(k o:Nat)(n:List Int):wO t (k+1) o n=((cN t).map fun c=>lO t k (xorN o c) n).foldl max 0:=by
 rw[maxL_fold _ _ (by omega),Int.max_eq_right (maxL_nonneg _)]
 unfold wO
 rw[worthS_succ,openS_length]
 simp only[cN,changesB,List.map_map]
 congr 1
 apply List.map_congr_left
 intro c hc
 simp only[Function.comp]
 unfold lO
 rw[open_flip h.gl o (choices_up (by have:=h.gl;omega) hc)]
theorem lO_range {t:DTrap}(h:DoorOk t)(k o n):0≤lO t k o n∧lO t k o n≤297:=by
 obtain⟨m,_,e⟩:=leastS_mem t.chambers.toNat t.hands.toNat (fishL t) k (openG o t.gates) (n.take t.groups.length)
 have hw:=wO_range h k o (m.take t.groups.length ++List.replicate (t.groups.length-m.length) 0)
 have hf: ∀f∈fishL t,0≤f:=fun f hf=>by
  obtain⟨g,hg,rfl⟩:=List.mem_map.1 hf
  exact(h.groups g hg).2.1
 have h1:=worthS_nonneg (n:=t.chambers.toNat) (h:=t.hands.toNat) hf k (openG o t.gates) m
 have h2:=worthS_le (n:=t.chambers.toNat) (h:=t.hands.toNat) hf k (openG o t.gates) m
 have h3:=wO_range h 0 0 []
 unfold lO
 rw[e]
 refine⟨h1,Int.le_trans h2 ?_⟩
 have key: ∀l:List Int,(∀f∈l,0≤f∧f≤99)→sumF l≤99*l.length:=by
  intro l
  induction l with
  |nil=>intro _;simp[sumF]
  |cons x r ih=>
    intro hh
    have:=ih fun f hf=>hh f (by simp[hf])
    have:=hh x (by simp)
    simp only[sumF,List.foldr_cons,List.length_cons]at*
    omega
 have h5:=key (fishL t) fun f hf=>by
  obtain⟨g,hg,rfl⟩:=List.mem_map.1 hf
  exact(h.groups g hg).2
 have h4:(fishL t).length≤3:=by simpa [fishL]using h.ol
 omega
abbrev keyD(k o:Nat)(n:List Int):List Int:=(k:Int)::(o:Int)::n
theorem wKey_key(t:DTrap)(k o:Nat) {n:List Int}(hn:n.length=3):wKey t (keyD k o n)=wO t k o n:=by
 match n,hn with
 |[a,b,c],_=>simp[keyD,wKey]
def valK(t:DTrap):Nat→Nat→List Int→MemW t→MemW t
 |0,_,_,K=>K
 |k+1,o,n,K=>if (kvGet K.1 (keyD (k+1) o n)).isSome then K else((cN t).foldl (fun K c=>aftK t (valK t k) (xorN o c) n K) K).put (keyD (k+1) o n)
set_option maxHeartbeats 8000000 in
theorem e_value {t:DTrap}(h:DoorOk t)(k:Nat):k≤4→ValD t (chB t) k (valK t k):=by
 induction k with
 |zero=>
   intro _ m dg lg dm lm L S G hmm o n K lab ho hn
   obtain⟨x0,x1,x2,rfl⟩: ∃x0 x1 x2,n=[x0,x1,x2]:=by
    match n,hn.1 with
    |[x0,x1,x2],_=>exact⟨x0,x1,x2,rfl⟩
   have hL:=G.len K.1
   have hd:=G.ltg
   have hc:=fun lab=>e_caught t h.ol h.ch (fun g hg=>(h.groups g hg).2) (chB t) m x0 x1 x2 dg lg ([(48, .cell [i64 0,i64 (o:Nat),i64 x0,i64 x1,i64 x2])]::S K.1) (by simp only[List.length_cons];omega) (by rw[sget_cons,if_neg (by omega),G.game]) lab
   have e:caughtS t.chambers.toNat (fishL t) [x0,x1,x2]=wO t 0 o [x0,x1,x2]:=by
    unfold wO
    simp only[worthS]
    have: ∀(f p:List Int) (k:Nat),f.length≤k→caughtS t.chambers.toNat f (p.take k)=caughtS t.chambers.toNat f p:=by
     intro f
     induction f with
     |nil=>intro p k _;simp[caughtS]
     |cons x f ih=>
       intro p k hk
       cases p with
       |nil=>simp
       |cons y p=>
         cases k with
         |zero=>simp at hk
         |succ k=>simp only[List.take_succ_cons,caughtS,ih p k (by simpa using hk)]
    exact(this _ _ _ (by simp[fishL])).symm
   rw[e]at hc
   simp only[valK]
   generalize wO t 0 o [x0,x1,x2]=w at*
   generalize S K.1=X at*
   subst hL
   simp only[sceneL,List.map_cons,List.map_nil,Int.natCast_zero]
   change den T _ [_, .agg [i64 0,_,_,_,_]] _ _=_
   rw[den_fn t49 _ _ _ rfl]
   simp only[b49]
   simp (maxSteps:=1000000) (disch:=first|omega|assumption|decide +kernel|(simp;done)|(simp;omega)|fail) [hc]
 |succ k ih0=>
   intro hk m dg lg dm lm L S G hmm o n K lab ho hn
   have ih:= @ih0 (by omega)
   obtain⟨x0,x1,x2,rfl⟩: ∃x0 x1 x2,n=[x0,x1,x2]:=by
    match n,hn.1 with
    |[x0,x1,x2],_=>exact⟨x0,x1,x2,rfl⟩
   have hL:=G.len
   have hd:=G.ltg
   have hd2:=G.ltm
   have e1: ¬dg=L:=by omega
   have e2: ¬dm=L:=by omega
   have hga:=G.game
   have hme:=G.mem
   have hpu:=G.put
   have hw:=wKey_key t (k+1) o (n:=[x0,x1,x2]) rfl
   have haf:=fun(c:Nat) (hc:c<32) (K:MemW t) lab=>e_after h (by omega:k<4) @ih (G.push [[(48, .cell [i64 ((k+1:Nat):Int),i64 (o:Nat),i64 x0,i64 x1,i64 x2])]]) hmm o c ho hc hn K lab
   have hsc:=wO_succ h k o [x0,x1,x2]
   have hlr:=fun c=>lO_range h k (xorN o c) [x0,x1,x2]
   have hT:(((k+1:Nat):Int)=0)=False:=by simp;omega
   simp only[sceneL,List.map_cons,List.map_nil,List.cons_append,List.nil_append]at haf⊢
   simp only[valK]
   have key:=loop_fold (T:=Go.Proofs.YtnglkclmplfnpaaGreat.T) (live:=[0,3,7,31,32,33]) (keep:=[48,256]) (b:=d49l0) (cN t) (fun _ (a:Int×MemW t)=>0≤a.1∧a.1≤297) (fun a c=>(max a.1 (lO t k (xorN o c) [x0,x1,x2]),aftK t (valK t k) (xorN o c) [x0,x1,x2] a.2))
    (fun j a=>[(0, .ptr dg lg 0),(3, .ptr L 48 0),(7,i64 a.1),(31, .sl .no 1 (es cInt (chB t))),(32,i64 (cN t).length),(33,i64 (j:Nat))]) (fun _ a=>[(48, .cell [i64 ((k+1:Nat):Int),i64 (o:Nat),i64 x0,i64 x1,i64 x2])]::S a.2.1)
    (fun a=>(.exit 0,[(0, .ptr dg lg 0),(3, .ptr L 48 0),(7,i64 a.1),(31, .sl .no 1 (es cInt (chB t))),(32,i64 (cN t).length),(33,i64 (cN t).length),(34, .bool false)],[(48, .cell [i64 ((k+1:Nat):Int),i64 (o:Nat),i64 x0,i64 x1,i64 x2])]::S a.2.1))
    (by simp) ?_ ?_ ?_ (0,K) (by simp) [(0, .ptr dg lg 0),(3, .ptr L 48 0),(7,i64 0),(31, .sl .no 1 (es cInt (chB t))),(32,i64 (cN t).length),(33,i64 0)] ([(48, .cell [i64 ((k+1:Nat):Int),i64 (o:Nat),i64 x0,i64 x1,i64 x2])]::S K.1) (by simp[hL,e1]) (by simp[hL])
   ·change Run Go.Proofs.YtnglkclmplfnpaaGreat.T b49l0 _ _=_ at key
    rw[fold_pair (fun a c=>max a (lO t k (xorN o c) [x0,x1,x2])) (fun K c=>aftK t (valK t k) (xorN o c) [x0,x1,x2] K),←List.foldl_map (f:=fun c=>lO t k (xorN o c) [x0,x1,x2]) (g:=max),←hsc]at key
    have hcl:(chB t).length=(cN t).length:=by simp[chB,natI]
    have hr: ∀v,kvGet K.1 (keyD (k+1) o [x0,x1,x2])=some v→v=wO t (k+1) o [x0,x1,x2]:=fun v hv=>by rw[←hw];exact K.2 _ _ hv
    simp only[keyD]at hr hw⊢
    generalize wO t (k+1) o [x0,x1,x2]=w at*
    generalize List.foldl _ K (cN t)=K' at*
    generalize hTT:((k+1:Nat):Int)=T1 at*
    generalize chB t=C at*
    generalize (cN t).length=N at*
    cases hv:kvGet K.1 [T1,(o:Nat),x0,x1,x2]with
    |some v=>
      obtain rfl:=hr v hv
      rw[den_fn t49 _ _ _ rfl]
      simp only[b49]
      simp (maxSteps:=1000000) (disch:=first|omega|assumption|decide +kernel|(simp;done)|(simp;omega)|fail) [run_drawnK,orSlow_none,hmm,hL,hga,hme,hpu,e1,e2,hT,hv]
    |none=>
      rw[den_fn t49 _ _ _ rfl]
      simp only[b49]
      simp (maxSteps:=1000000) (disch:=first|omega|assumption|decide +kernel|(simp;done)|(simp;omega)|fail) [run_drawnK,orSlow_none,hmm,hL,hga,hme,hpu,e1,e2,hT,hv,hcl,key,Mem.put,hw]
   ·intro j a hj hi
    obtain⟨a,K2⟩:=a
    have hj2:(j:Int)<(cN t).length:=by omega
    have hcl:(chB t).length=(cN t).length:=by simp[chB,natI]
    have hj3:j<(chB t).length:=by omega
    have hcj:(chB t)[j]=((cN t)[j]:Int):=by simp[chB,natI]
    have hc:=cN_lt h (List.getElem_mem hj)
    have hlen:(cN t).length≤32:=by rw[←hcl];exact(chB_len h).2.2
    have ha:=haf _ hc K2
    have hr:=hlr (cN t)[j]
    generalize (cN t)[j]=c at*
    simp only at hi⊢
    generalize lO t k (xorN o c) [x0,x1,x2]=w at*
    generalize aftK t (valK t k) (xorN o c) [x0,x1,x2] K2=K' at*
    generalize hTT:((k+1:Nat):Int)=T1 at*
    generalize chB t=C at*
    simp (maxSteps:=1000000) (disch:=first|omega|assumption|decide +kernel|(simp;done)|(simp;omega)|fail) [hj,hj2,hj3,hcj,hL,hga,e1,ha,wk j (by omega)]
   ·intro j a hj hi
    have:=hlr (cN t)[j]
    simp only
    omega
   ·intro a hi
    simp
end Go.Proofs.YtnglkclmplfnpaaGreat

/-
  Doors: Worth, Plan, Turns.
-/
namespace Go.Proofs.YtnglkclmplfnpaaGreat
open Go.Ab
theorem GameD.top {t C} {s:Stk} {lg lm:Nat} {X:List (List Int×Int)→Ab.Loc}(hg: ∀K,(X K).get lg=some (.cell (gameV t C (.mp (.ptr s.length lm 0)))))(hm: ∀K,(X K).get lm=some (.mp (some 5) K))(hp: ∀K K',(X K).put lm (.mp (some 5) K')=X K'):
 GameD t C (.mp (.ptr s.length lm 0)) s.length lg s.length lm (s.length+1) (fun K=>X K::s) where
 len:=fun K=>by simp
 ltg:=by omega
 ltm:=by omega
 game:=fun K=>by rw[sget_top,hg]
 mem:=fun K=>by rw[sget_top,hm]
 put:=fun K K'=>by rw[sput_top,hp]
def nAt(t:DTrap):List Int:=[at0 t 0,at0 t 1,at0 t 2]
def worthT(t:DTrap)(k:Nat):Int:=worthS t.chambers.toNat t.hands.toNat (fishL t) k t.gates (posL t)
abbrev gN(t:DTrap):Nat:=gateBits t.gates
theorem at0_get {t:DTrap} {i:Nat}(hi:i<t.groups.length):at0 t i=t.groups[i].pos:=by simp[at0,pk,hi]
theorem nAt_in {t:DTrap}(h:DoorOk t):InN t (nAt t):=by
 refine⟨rfl,fun i hi=> ?_⟩
 have h3:=h.ol
 have:(nAt t).getD i 0=at0 t i:=by
  obtain rfl|rfl|rfl:i=0∨i=1∨i=2:=by omega
  all_goals rfl
 rw[this,at0_get hi]
 exact(h.groups _ (List.getElem_mem hi)).1
theorem nAt_take {t:DTrap}(h:DoorOk t):(nAt t).take t.groups.length=posL t:=by
 have h3:=h.ol
 apply List.ext_getElem?
 intro i
 rw[List.getElem?_take]
 split
 ·rename_i hi
  have:(nAt t)[i]? =some (at0 t i):=by
   obtain rfl|rfl|rfl:i=0∨i=1∨i=2:=by omega
   all_goals rfl
  rw[this,at0_get hi]
  simp[posL,hi]
 ·rename_i hi
  simp only[posL,List.getElem?_map,List.getElem?_eq_none (show t.groups.length≤i by omega)];rfl
theorem gN_lt {t:DTrap}(h:DoorOk t):gN t<32:=gateBits_lt h.gl
theorem wO_start {t:DTrap}(h:DoorOk t)(k:Nat):wO t k (gN t) (nAt t)=worthT t k:=by
 unfold wO worthT
 rw[nAt_take h,openG_bits]
theorem start_cells(t:DTrap):sceneV t.turns (gN t:Nat) (at0 t 0) (at0 t 1) (at0 t 2)=sceneL t.turns (gN t:Nat) (nAt t):=rfl
def worthR(t:DTrap):Int×Int:=if doorBDd t=true then(worthT t t.turns.toNat,0)else(0,30)
set_option maxHeartbeats 8000000 in
theorem e_Worth(t:DTrap)(hs:ShortD t)(lab s):den T 28 [.agg (dV t)] lab s=some (.tup [i64 (worthR t).1,i64 (worthR t).2],s):=by
 unfold worthR
 cases h:doorBDd t
 ·have hb:=fun lab loc s=>e_begin_bad t hs h true lab loc s
  rw[den_fn t28 _ _ _ rfl]
  simp only[b28]
  simp (maxSteps:=1000000) (disch:=first|omega|assumption|decide +kernel|(simp;done)|(simp;omega)|fail) [hb]
 ·have ho:=doorB_iff.1 h
  have hb:=fun lab loc k0 k1=>e_begin t ho lab loc s k0 k1
  have hT:((t.turns.toNat:Nat):Int)=t.turns:=by have:=ho.tu;omega
  have hv:=fun lab=>e_value ho t.turns.toNat (by have:=ho.tu;omega) (GameD.top (s:=s) (lg:=144) (lm:=1144) (X:=fun K=>[(16, .cell (dV t)),(144, .cell (gameV t (chB t) (.mp (.ptr s.length 1144 0)))),(1144, .mp (some 5) K),(80, .cell (scene0 t))]) (fun K=>rfl) (fun K=>rfl) (fun K K'=>rfl)) rfl (gN t) (nAt t) Mem.nil lab (gN_lt ho) (nAt_in ho)
  rw[wO_start ho,hT,←start_cells]at hv
  simp only[scene0]at hb hv
  generalize worthT t _=w at*
  generalize valK t _ _ _ _=K' at*
  generalize chB t=C at*
  change∀lab,den T _ _ lab ([(16,_),(144,_),(1144, .mp (some 5) []),(80,_)]::s)=_ at hv
  rw[den_fn t28 _ _ _ rfl]
  simp only[b28]
  simp (maxSteps:=1000000) (disch:=first|omega|assumption|decide +kernel|(simp;done)|(simp;omega)|fail) [hb,hv]
end Go.Proofs.YtnglkclmplfnpaaGreat

/-
  Regions in each order that they may have, by an invariant.
-/
namespace Go.Proofs.YtnglkclmplfnpaaGreat
open Go.Ab
theorem mem_ready: ∀(ops:List AOper) (k:Nat) (done:List Nat) (i:Nat),i∈readyFrom k ops done↔ ∃j o,ops[j]? =some o∧i=k+j∧i∉done∧ ∀p∈o.pre,p∈done
 |[],k,done,i=>by simp[readyFrom]
 |o::r,k,done,i=>by
   have ih:=mem_ready r (k+1) done i
   have hs:(∃j o',(o::r)[j]? =some o'∧i=k+j∧i∉done∧ ∀p∈o'.pre,p∈done)↔(i=k∧i∉done∧ ∀p∈o.pre,p∈done)∨ ∃j o',r[j]? =some o'∧i=k+1+j∧i∉done∧ ∀p∈o'.pre,p∈done:=by
    constructor
    ·rintro⟨j,o',h1,h2,h3⟩
     cases j with
     |zero=>simp at h1;subst h1;exact .inl ⟨by omega,h3⟩
     |succ j=>exact .inr ⟨j,o',by simpa using h1,by omega,h3⟩
    ·rintro(⟨h1,h2⟩|⟨j,o',h1,h2,h3⟩)
     ·exact⟨0,o,rfl,by omega,h2⟩
     ·exact⟨j+1,o',by simpa using h1,by omega,h3⟩
   rw[hs]
   simp only[readyFrom]
   split
   ·rename_i hc
    rw[ih]
    constructor
    ·exact .inr
    ·rintro(⟨h1,h2,h3⟩|h)
     ·subst h1
      simp only[Bool.or_eq_true,List.contains_iff_mem,Bool.not_eq_true',List.all_eq_false]at hc
      rcases hc with hc|⟨p,hp,hn⟩
      ·exact absurd hc h2
      ·exact absurd (by simpa using h3 p hp) hn
     ·exact h
   ·rename_i hc
    simp only[Bool.or_eq_true,List.contains_iff_mem,Bool.not_eq_true',List.all_eq_false,not_or,not_exists,not_and,Decidable.not_not]at hc
    rw[List.mem_cons,ih]
    constructor
    ·rintro(h|h)
     ·subst h;exact .inl ⟨rfl,hc.1,fun p hp=>by simpa using hc.2 p hp⟩
     ·exact .inr h
    ·rintro(⟨h1,_⟩|h)
     ·exact .inl h1
     ·exact .inr h
theorem agree_all {α:Type} {l:List (Option α)} {x:Option α}(hne:l≠[])(h: ∀y∈l,y=x):agree l=x:=by
 cases l with
 |nil=>exact absurd rfl hne
 |cons a r=>
   have ha:=h a (by simp)
   subst ha
   simp only[agree]
   rw[if_pos fun y hy=>h y (by simp[hy])]
end Go.Proofs.YtnglkclmplfnpaaGreat

/-
  Doors: Plan.
-/
namespace Go.Proofs.YtnglkclmplfnpaaGreat
open Go.Ab
@[simp] theorem Mem.nil_val {W:List Int→Int}:(Mem.nil:Mem W).1=[]:=rfl
end Go.Proofs.YtnglkclmplfnpaaGreat

/-
  Doors: bitsOf, changed, After.
-/
namespace Go.Proofs.YtnglkclmplfnpaaGreat
open Go.Ab
theorem foldS_allF {α σ ρ:Type}(p:α→Bool)(g:σ→α→σ)(q:ρ)(fin:σ→ρ): ∀(l:List α) (a:σ),foldS (fun a x=>if p x=true then .inl (g a x)else .inr q) fin l a=if l.all p=true then fin (l.foldl g a)else q
 |[],a=>by simp[foldS]
 |x::l,a=>by
   by_cases h:p x=true
   ·simp[foldS,h,foldS_allF p g q fin l]
   ·simp[foldS,h]
def orAt(c:List Int)(o k:Nat):Nat:=orN o (powN (c.getD k 0).toNat)
theorem orAt_mask(c:List Int):(List.range c.length).foldl (orAt c) 0=maskL c:=by
 have key: ∀(r:List Int) (a:Nat),(List.range r.length).foldl (fun o k=>orN o (powN (r.getD k 0).toNat)) a=r.foldl (fun g n=>g|||(1<<<n.toNat)) a:=by
  intro r
  induction r with
  |nil=>intro a;rfl
  |cons x r ih=>
    intro a
    rw[List.length_cons,List.range_succ_eq_map,List.foldl_cons,List.foldl_map]
    simp only[List.getD_cons_succ,List.getD_cons_zero,List.foldl_cons]
    rw[ih]
    simp[orN,powN,Nat.one_shiftLeft]
 exact key c 0
theorem or_lt {o n:Nat}(h:o<32)(hn:n≤4):orN o (powN n)<32:=by
 unfold orN powN
 exact Nat.or_lt_two_pow (n:=5) h (Nat.pow_lt_pow_right (by decide) (by omega))
def bitsR(t:DTrap)(c:List Int):Int×Bool:=if rising c 0 (t.gates.length-1)=true then((maskL c:Nat),decide ((c.length:Int)≤t.hands))else(0,false)
set_option maxHeartbeats 2000000 in
theorem e_bitsOf(t:DTrap)(hl:t.gates.length≤5)(C:List Int)(m:V)(c:List Int)(hc:c.length<1000000000000)(d l:Nat)(s:Stk)(hd:d<s.length)(h:sget s d l=some (.cell (gameV t C m)))(lab):
 den T 33 [.ptr d l 0, .sl .no 1 (es cInt c)] lab s=some (.tup [i64 (bitsR t c).1, .bool (bitsR t c).2],s):=by
 have hd': ¬d=s.length:=by omega
 have key:=loop_list (T:=Go.Proofs.YtnglkclmplfnpaaGreat.T) (live:=[0,1,4,8,9,10]) (keep:=[]) (b:=d33l0) (List.range c.length) (fun _ (o:Nat)=>o<32)
  (fun k o=>[(0, .ptr d l 0),(1, .sl .no 1 (es cInt c)),(4,i64 (o:Nat)),(8, .sl .no 1 (es cInt c)),(9,i64 c.length),(10,i64 (k:Nat))]) (fun _ _=>[]::s)
  (fun o k=>if risingAt c 0 (t.gates.length-1) k=true then .inl (orAt c o k)else .inr (.ret,[(4,i64 0),(5, .bool false)],[]::s))
  (fun o=>(.exit 0,[(0, .ptr d l 0),(1, .sl .no 1 (es cInt c)),(4,i64 (o:Nat)),(8, .sl .no 1 (es cInt c)),(9,i64 c.length),(10,i64 c.length),(11, .bool false)],[]::s))
  ?_ ?_ ?_ ?_ (by simp) 0 (by simp) [(0, .ptr d l 0),(1, .sl .no 1 (es cInt c)),(4,i64 0),(8, .sl .no 1 (es cInt c)),(9,i64 c.length),(10,i64 0)] ([]::s) (by simp[hd']) (by simp)
 ·rw[foldS_allF]at key
  rw[orAt_mask]at key
  change Run T b33l0 _ _=some (if rising c 0 (t.gates.length-1)=true then _ else _)at key
  unfold bitsR
  generalize maskL c=M at*
  rw[den_fn t33 _ _ _ rfl]
  simp only[b33]
  by_cases hr:rising c 0 (t.gates.length-1)=true
  ·rw[if_pos hr]at key
   simp (maxSteps:=1000000) (disch:=first|omega|assumption|decide +kernel|(simp;done)|(simp;omega)|fail) [run_drawnK,orSlow_none,h,hd',key,hr]
  ·rw[if_neg hr]at key
   simp (maxSteps:=1000000) (disch:=first|omega|assumption|decide +kernel|(simp;done)|(simp;omega)|fail) [h,hd',key,hr]
 ·intro k o hk ho
  simp only[List.length_range]at hk
  simp only[List.getElem_range]
  have hk':(k:Int)<c.length:=by omega
  have hg:c.getD k 0=c[k]:=by simp[List.getD,hk]
  have w1:IntKind.i64.wrap ((t.gates.length:Int)-1)=(t.gates.length:Int)-1:=wi _ (by omega) (by omega)
  unfold orAt
  rw[hg]
  cases h0:wiB c[k] 0 (t.gates.length-1)
  ·simp (maxSteps:=1000000) (disch:=first|omega|assumption|decide +kernel|(simp;done)|(simp;omega)|fail) [hk,h,hd',h0,w1,risingAt,hg]
  have hb:0≤c[k]∧c[k]≤t.gates.length-1:=by simpa [wiB]using h0
  obtain⟨n,hn⟩: ∃n:Nat,c[k]=n:=⟨c[k].toNat,by omega⟩
  have hn4:n≤4:=by omega
  have s1:=bshl (n:=n) (by omega)
  have s2:=bor (a:=o) (b:=powN n) (by omega) (powN_lt (by omega))
  have hwk:=wk k (by omega)
  by_cases h1:k=0
  ·subst h1
   have hne: ¬c=[]:=fun e=>by simp[e]at hk
   generalize hx:c[0]=x at*
   subst hn
   simp (maxSteps:=1000000) (disch:=first|omega|assumption|decide +kernel|(simp;done)|(simp;omega)|fail) [show IntKind.i64.wrap 1=1 by decide,hk,hx,hne,h,hd',h0,w1,risingAt,hg,s1,s2,-bin_shl,-bin_or]
  have hk1:k-1<c.length:=by omega
  have h1p:0<k:=by omega
  have h1q:(1:Int)≤k:=by omega
  have hg1:c.getD (k-1) 0=c[k-1]:=by simp[List.getD,hk1]
  have hnn:((k:Int)-1).toNat=k-1:=by omega
  have hwk2:IntKind.i64.wrap ((k:Int)-1)=(k:Int)-1:=wi _ (by omega) (by omega)
  by_cases h2:c[k-1]<c[k]
  ·have h3: ¬c[k]≤c[k-1]:=by omega
   generalize hx:c[k]=x at*
   subst hn
   simp (maxSteps:=1000000) (disch:=first|omega|assumption|decide +kernel|(simp;done)|(simp;omega)|fail) [hk,hk',hk1,hx,h,hd',h0,w1,risingAt,hg,hg1,h1,h1p,h1q,h2,h3,hnn,hwk,hwk2,s1,s2,-bin_shl,-bin_or]
  ·have h3:c[k]≤c[k-1]:=by omega
   generalize hx:c[k]=x at*
   subst hn
   simp (maxSteps:=1000000) (disch:=first|omega|assumption|decide +kernel|(simp;done)|(simp;omega)|fail) [hk,hk',hk1,hx,h,hd',h0,w1,risingAt,hg,hg1,h1,h1p,h1q,h2,h3,hnn,hwk,hwk2,s1,s2,-bin_shl,-bin_or]
 ·intro k o o' hk ho hs
  simp only[List.length_range]at hk
  simp only[List.getElem_range]at hs
  split at hs
  ·rename_i hr
   simp only[Sum.inl.injEq]at hs
   subst hs
   have hb:0≤c.getD k 0∧c.getD k 0≤t.gates.length-1:=by
    simp only[risingAt,Bool.and_eq_true]at hr
    simpa [wiB]using hr.1
   exact or_lt ho (by omega)
  ·cases hs
 ·intro k o q hk ho hs
  split at hs
  ·cases hs
  ·simp only[Sum.inr.injEq]at hs
   subst hs;simp
 ·intro o ho
  simp
end Go.Proofs.YtnglkclmplfnpaaGreat

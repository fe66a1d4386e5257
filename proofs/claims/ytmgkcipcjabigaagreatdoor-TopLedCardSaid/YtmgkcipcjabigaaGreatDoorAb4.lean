/-
  Operations: maps from integers, or structs of integers, to integers.
-/
import Derived.Test.YtmgkcipcjabigaaGreatDoorAb3
import Derived.MapKept
import Derived.RangeFuncRecord
import Derived.ChangeKeysEq
import Derived.LoopNIn
import Derived.RangeFuncLeaves
set_option linter.unusedSimpArgs false
set_option linter.unusedVariables false
namespace Go.Ab
section
variable {P : Program} {D : Nat} {w : World} {γ : G}
abbrev iv(n:Int):Value:= .int .i64 n
theorem intsOf_len: ∀ {cs:List V} {l:List Int},intsOf cs=some l→l.length=cs.length
 |[],l,h=>by simp[intsOf]at h;subst h;rfl
 |v::r,l,h=>by
   unfold intsOf at h
   split at h
   ·rename_i heq;cases heq
   ·rename_i n r' heq
    cases heq
    obtain⟨l',h1,rfl⟩:=Option.map_eq_some_iff.1 h
    simp[intsOf_len h1]
   ·cases h
theorem intsOf_lr: ∀ {cs:List V} {l:List Int} {us:List Value},intsOf cs=some l→LR D w γ cs us→us=l.map iv
 |[],l,us,h,hl=>by
   simp[intsOf]at h;subst h
   exact List.eq_nil_of_length_eq_zero hl.1.symm
 |v::r,l,us,h,hl=>by
   unfold intsOf at h
   split at h
   ·rename_i heq;cases heq
   ·rename_i n r' heq
    cases heq
    obtain⟨l',h1,rfl⟩:=Option.map_eq_some_iff.1 h
    obtain⟨u,us',rfl,h2,h3⟩:=hl.inv
    rw[h2.int_inv,intsOf_lr h1 h3];rfl
   ·cases h
theorem keyInts_vr {t:Option Nat} {v:V} {u:Value} {ns:List Int}(h:keyInts t v=some ns)(hv:VR D w γ v u):u=keyV t ns∧ns.length=t.getD 1:=by
 unfold keyInts at h
 split at h
 ·cases h;exact⟨hv.int_inv,rfl⟩
 ·rename_i m cs
  split at h
  ·rename_i hc
   obtain⟨us,rfl,hl⟩:=hv.agg_inv
   have:=intsOf_lr h hl
   refine⟨?_,by rw[intsOf_len h,hc];rfl⟩
   simp only[keyV]
   rw[show us=us.toList.toArray by simp,this]
  ·cases h
 ·cases h
theorem part_iv {e:TypeId}(he:isAggT P e=some false)(as:List Int) {i:Nat}(hi:i<as.length)(w:World):(Go.part e (as.map iv).toArray i).run P w= .ok (iv as[i]) w:=by
 unfold Go.part
 simp[run_isAgg he,hi]
theorem eqItems_iv(k:Nat) {e:TypeId}(hu:P.underlying e=some (.int .i64))(as bs:List Int)(w:World): ∀(is:List Nat),(∀i∈is,i<as.length∧i<bs.length)→
 (Op.eqItems (k+1) e 1 (as.map iv).toArray (bs.map iv).toArray is).run P w= .ok (is.all fun i=>as.getD i 0==bs.getD i 0) w
 |[],_=>rfl
 |i::is,h=>by
   have he:isAggT P e=some false:=by simp[isAggT,hu]
   obtain⟨ha,hb⟩:=h i (by simp)
   simp only[Op.eqItems,Nat.mul_one,Sem.run_bind,part_iv he as ha,part_iv he bs hb,Result.andThen_ok,run_equalIn_int w k e _ .i64 _ _ hu,Sem.run_ite,Sem.run_pure,eqItems_iv k hu as bs w is fun j hj=>h j (by simp[hj]),List.all_cons]
   rw[show as.getD i 0=as[i]by simp[List.getD,ha],show bs.getD i 0=bs[i]by simp[List.getD,hb]]
   by_cases e1:as[i]=bs[i]<;>simp[e1]
theorem range_all(as bs:List Int)(h:as.length=bs.length):((List.range as.length).all fun i=>as.getD i 0==bs.getD i 0)=decide (as=bs):=by
 rw[Bool.eq_iff_iff]
 simp only[List.all_eq_true,List.mem_range,beq_iff_eq,decide_eq_true_eq]
 constructor
 ·intro hh
  apply List.ext_getElem h
  intro i h1 h2
  have:=hh i h1
  simpa [List.getD,h1,h2]using this
 ·rintro rfl i _;rfl
theorem info_of_sizeT {t:TypeId} {n:Nat}(h:sizeT P t=some n): ∃i,P.info? t=some i∧i.size=n:=by
 unfold sizeT at h
 obtain⟨i,h1,h2⟩:=Option.map_eq_some_iff.1 h
 exact⟨i,h1,h2⟩
theorem pkArr_inv {n m:Nat} {el:TypeId}(h:pkArr P n el=some m):m=n∧P.underlying el=some (.int .i64)∧sizeT P el=some 1∧P.cellsOf el=1:=by
 unfold pkArr at h
 split at h
 ·rename_i hu
  split at h
  ·rename_i hc
   cases h
   exact⟨rfl,hu,hc⟩
  ·cases h
 ·cases h
theorem part_pk {d:Nat} {t:TypeId} {k:Nat}(h:pkT P d t=some k)(hs:sizeT P t=some k)(as:List Int) {off:Nat}(ho:off+k≤as.length)(w:World):
 (Go.part t (as.map iv).toArray off).run P w= .ok (valAt P t (((as.drop off).take k).map iv)) w:=by
 have hagg:(isAggT P t=some false∧k=1)∨isAggT P t=some true:=by
  cases d with
  |zero=>simp[pkT]at h
  |succ d=>
    simp only[pkT]at h
    unfold isAggT
    split at h<;>rename_i hu<;>simp[hu]at h⊢
    exact h.symm
 unfold Go.part
 rcases hagg with ⟨hb,rfl⟩|hb
 ·have hn:off<as.length:=by omega
  have:(as.drop off).take 1=[as[off]]:=by
   rw[List.drop_eq_getElem_cons hn,List.take_succ_cons,List.take_zero]
  simp[run_isAgg hb,hn,valAt,hb,this]
 ·simp[run_isAgg hb,run_sizeOf' hs,valAt,hb,List.take_drop,List.map_take,List.map_drop]
theorem pk_eq: ∀(d:Nat),(∀(t:TypeId) (n:Nat),pkT P d t=some n→ ∀as bs:List Int,as.length=n→bs.length=n→ ∀k,d+1≤k→(Op.equalIn k t (valAt P t (as.map iv)) (valAt P t (bs.map iv))).run P w= .ok (decide (as=bs)) w)∧
 (∀(fs:List Field) (n0 n:Nat),pkFs P d fs n0=some n→ ∀as bs:List Int,as.length=n0+n→bs.length=n0+n→ ∀k,d+1≤k→(Op.eqFields k (as.map iv).toArray (bs.map iv).toArray fs).run P w= .ok (decide (as.drop n0=bs.drop n0)) w):=by
 intro d
 induction d with
 |zero=>exact⟨fun t n h=>by simp[pkT]at h,fun fs n0 n h=>by simp[pkFs]at h⟩
 |succ d ih=>
   refine⟨fun t n h as bs ha hb k hk=> ?_,fun fs n0 n h as bs ha hb k hk=> ?_⟩
   ·obtain⟨k,rfl⟩: ∃k',k=k'+1:=⟨k-1,by omega⟩
    simp only[pkT]at h
    split at h
    ·rename_i ht
     cases h
     have e1:isAggT P t=some false:=by simp[isAggT,ht]
     obtain⟨x,rfl⟩:=List.length_eq_one_iff.1 ha
     obtain⟨y,rfl⟩:=List.length_eq_one_iff.1 hb
     simp only[valAt,e1,List.map_cons,List.map_nil,run_equalIn_int w k t _ .i64 _ _ ht]
     rw[show(x==y)=decide ([x]=[y])by rw[Bool.eq_iff_iff];simp]
    ·rename_i m el ht
     obtain⟨rfl,hu,hs,hc⟩:=pkArr_inv h
     obtain⟨i,hi,hi1⟩:=info_of_sizeT hs
     have e1:isAggT P t=some true:=by simp[isAggT,ht]
     have hv1: ∀us:List Value,valAt P t us= .agg us.toArray:=fun us=>by simp[valAt,e1]
     rw[hv1,hv1,run_equalIn_array w k _ _ ht hi,hc]
     obtain⟨k,rfl⟩: ∃k',k=k'+1:=⟨k-1,by omega⟩
     rw[eqItems_iv k hu as bs w _ (fun i hi=>by rw[ha,hb];simpa using hi),←ha,range_all as bs (by omega)]
    ·rename_i fs ht
     split at h
     ·cases h
     ·rename_i hst
      have e1:isAggT P t=some true:=by simp[isAggT,ht]
      have e2:P.fieldsOf t=fs:=by simp[Program.fieldsOf,ht]
      have hv1: ∀us:List Value,valAt P t us= .agg us.toArray:=fun us=>by simp[valAt,e1]
      rw[hv1,hv1,run_equalIn_struct w k t _ _ (by rw[e2];exact ht) (by simpa using hst),e2]
      simpa using ih.2 fs.toList 0 n h as bs (by omega) (by omega) k (by omega)
    ·cases h
   ·cases fs with
    |nil=>
      simp only[pkFs]at h
      cases h
      have e1:as.drop n0=[]:=List.drop_eq_nil_of_le (by omega)
      have e2:bs.drop n0=[]:=List.drop_eq_nil_of_le (by omega)
      simp[e1,e2,Op.eqFields]
    |cons f rest=>
      simp only[pkFs]at h
      split at h
      ·rename_i hf
       split at h
       ·rename_i k1 hk1
        split at h
        ·rename_i hsz
         obtain⟨k2,hk2,rfl⟩:=Option.map_eq_some_iff.1 h
         have hx:=part_pk hk1 hsz as (off:=n0) (by omega) w
         have hy:=part_pk hk1 hsz bs (off:=n0) (by omega) w
         have heq:=ih.1 f.type k1 hk1 ((as.drop n0).take k1) ((bs.drop n0).take k1) (by simp;omega) (by simp;omega) k (by omega)
         have hrest:=ih.2 rest (n0+k1) k2 hk2 as bs (by omega) (by omega) k (by omega)
         simp only[Op.eqFields,hf.1,hf.2,ne_eq,not_false_eq_true,if_true,Sem.run_bind,hx,hy,heq,Result.andThen_ok,Sem.run_ite,hrest,Sem.run_pure]
         have split:as.drop n0=bs.drop n0↔(as.drop n0).take k1=(bs.drop n0).take k1∧as.drop (n0+k1)=bs.drop (n0+k1):=by
          constructor
          ·intro e;rw[e];exact⟨rfl,by rw[←List.drop_drop,←List.drop_drop,e]⟩
          ·rintro⟨e1,e2⟩
           rw[←List.take_append_drop k1 (as.drop n0),←List.take_append_drop k1 (bs.drop n0),e1,List.drop_drop,List.drop_drop,e2]
         by_cases e1:(as.drop n0).take k1=(bs.drop n0).take k1<;>by_cases e2:as.drop (n0+k1)=bs.drop (n0+k1)<;>simp[e1,e2,split]
        ·cases h
       ·cases h
      ·cases h
theorem pk_check(em:Bool): ∀(d:Nat),(∀(t:TypeId) (n:Nat),pkT P d t=some n→ ∀as:List Int,as.length=n→ ∀k,d+1≤k→(Instr.checkKey em k t (valAt P t (as.map iv))).run P w= .ok () w)∧
 (∀(fs:List Field) (n0 n:Nat),pkFs P d fs n0=some n→ ∀as:List Int,as.length=n0+n→ ∀k,d+1≤k→
   ∀f,f∈fs→f.name≠ "_" ∧ ∃v,(Go.part f.type (as.map iv).toArray f.offset).run P w= .ok v w∧(Instr.checkKey em k f.type v).run P w= .ok () w):=by
 intro d
 induction d with
 |zero=>exact⟨fun t n h=>by simp[pkT]at h,fun fs n0 n h=>by simp[pkFs]at h⟩
 |succ d ih=>
   refine⟨fun t n h as ha k hk=> ?_,fun fs n0 n h as ha k hk=> ?_⟩
   ·obtain⟨k,rfl⟩: ∃k',k=k'+1:=⟨k-1,by omega⟩
    simp only[pkT]at h
    split at h
    ·rename_i ht
     cases h
     have e1:isAggT P t=some false:=by simp[isAggT,ht]
     obtain⟨x,rfl⟩:=List.length_eq_one_iff.1 ha
     simp[valAt,e1,Instr.checkKey,run_underlying ht]
    ·rename_i m el ht
     obtain⟨rfl,hu,hs,hc⟩:=pkArr_inv h
     have e1:isAggT P t=some true:=by simp[isAggT,ht]
     have e0:isAggT P el=some false:=by simp[isAggT,hu]
     have hv1: ∀us:List Value,valAt P t us= .agg us.toArray:=fun us=>by simp[valAt,e1]
     obtain⟨k,rfl⟩: ∃k',k=k'+1:=⟨k-1,by omega⟩
     rw[hv1,Instr.checkKey]
     simp only[Sem.run_bind,run_underlying ht,Result.andThen_ok]
     simp only[Std.Legacy.Range.forIn_eq_forIn_range',Std.Legacy.Range.size,Nat.sub_zero,Nat.add_one_sub_one,Nat.div_one]
     have each: ∀i∈List.range' 0 n,i<as.length:=fun i hi=>by simp at hi;omega
     generalize List.range' 0 n=is at each
     induction is with
     |nil=>simp
     |cons j is ih'=>
       have hj:=each j (by simp)
       simp only[List.forIn_cons,Sem.run_bind,run_sizeOf' hs,Result.andThen_ok,Nat.mul_one,part_iv e0 as hj,Sem.run_pure]
       have hck:(Instr.checkKey em (k+1) el (iv as[j])).run P w= .ok () w:=by simp[Instr.checkKey,run_underlying hu]
       simp only[hck,Result.andThen_ok]
       exact ih' (fun i hi=>each i (by simp[hi]))
    ·rename_i fs ht
     split at h
     ·cases h
     ·have e1:isAggT P t=some true:=by simp[isAggT,ht]
      have hv1: ∀us:List Value,valAt P t us= .agg us.toArray:=fun us=>by simp[valAt,e1]
      rw[hv1,Instr.checkKey]
      simp only[Sem.run_bind,run_underlying ht,Result.andThen_ok]
      rw[←Array.forIn_toList]
      have each:=ih.2 fs.toList 0 n h as (by omega) k (by omega)
      generalize fs.toList=L at each
      induction L with
      |nil=>simp
      |cons f L ih'=>
        obtain⟨hn,v,p1,p2⟩:=each f (by simp)
        simp only[List.forIn_cons,Sem.run_bind,hn,ne_eq,not_false_eq_true,if_true,Result.andThen_ok,p1,p2,Sem.run_pure]
        exact ih' (fun y hy=>each y (by simp[hy]))
    ·cases h
   ·cases fs with
    |nil=>intro f hf;simp at hf
    |cons f rest=>
      simp only[pkFs]at h
      split at h
      ·rename_i hf
       split at h
       ·rename_i k1 hk1
        split at h
        ·rename_i hsz
         obtain⟨k2,hk2,rfl⟩:=Option.map_eq_some_iff.1 h
         have hx:=part_pk hk1 hsz as (off:=n0) (by omega) w
         have heq:=ih.1 f.type k1 hk1 ((as.drop n0).take k1) (by simp;omega) k (by omega)
         have hrest:=ih.2 rest (n0+k1) k2 hk2 as (by omega) k (by omega)
         intro g hg
         rcases List.mem_cons.1 hg with rfl|hg
         ·exact⟨hf.1,_,by rw[hf.2];exact hx,heq⟩
         ·exact hrest g hg
        ·cases h
       ·cases h
      ·cases h
def KeyT(P:Program)(t:Option Nat)(k:TypeId):Prop:=(t=none∧P.underlying k=some (.int .i64))∨ ∃n fs,t=some n∧P.underlying k=some (.struct fs)∧pkT P 40 k=some n
theorem mapTag_inv {mt k el:TypeId} {t:Option Nat}(h:mapTag P mt=some (t,k,el)):P.underlying mt=some (.map k el)∧P.underlying el=some (.int .i64)∧KeyT P t k:=by
 unfold mapTag at h
 split at h
 ·rename_i k' el' hm
  split at h
  ·rename_i he
   split at h
   ·rename_i hk
    cases h
    exact⟨hm,he, .inl ⟨rfl,hk⟩⟩
   ·rename_i fs hk
    obtain⟨n,h1,h2⟩:=Option.map_eq_some_iff.1 h
    cases h2
    exact⟨hm,he, .inr ⟨n,fs,rfl,hk,h1⟩⟩
   ·cases h
  ·cases h
 ·cases h
theorem key_equal {t:Option Nat} {k:TypeId}(hk:KeyT P t k) {as bs:List Int}(ha:as.length=t.getD 1)(hb:bs.length=t.getD 1)(w:World):(Op.equal k (keyV t as) (keyV t bs)).run P w= .ok (decide (as=bs)) w:=by
 unfold Op.equal
 rcases hk with ⟨rfl,hu⟩|⟨n,fs,rfl,hu,hp⟩
 ·obtain⟨x,rfl⟩:=List.length_eq_one_iff.1 ha
  obtain⟨y,rfl⟩:=List.length_eq_one_iff.1 hb
  simp only[keyV,List.headD_cons,Op.maxDepth,run_equalIn_int w _ k _ .i64 _ _ hu]
  rw[show(x==y)=decide ([x]=[y])by rw[Bool.eq_iff_iff];simp]
 ·have e1:isAggT P k=some true:=by simp[isAggT,hu]
  have:=(pk_eq (w:=w) 40).1 k n hp as bs ha hb Op.maxDepth (by decide)
  simpa [valAt,e1,keyV]using this
theorem key_check {t:Option Nat} {k:TypeId}(hk:KeyT P t k) {as:List Int}(ha:as.length=t.getD 1)(em:Bool)(w:World):(Instr.checkKey em 10000 k (keyV t as)).run P w= .ok () w:=by
 rcases hk with ⟨rfl,hu⟩|⟨n,fs,rfl,hu,hp⟩
 ·rw[show(10000:Nat)=9999+1 from rfl,Instr.checkKey]
  simp[keyV,run_underlying hu]
 ·have e1:isAggT P k=some true:=by simp[isAggT,hu]
  have:=(pk_check (w:=w) em 40).1 k n hp as ha 10000 (by decide)
  simpa [valAt,e1,keyV]using this
theorem mpEs_len(t:Option Nat): ∀(i:Nat) (kvs:List (List Int×Int)),(mpEs t i kvs).length=kvs.length
 |_,[]=>rfl
 |i,x::r=>by simp[mpEs,mpEs_len t (i+1) r]
theorem asking_ok {t:Option Nat} {k:TypeId}(hk:KeyT P t k) {ns:List Int}(hn:ns.length=t.getD 1)(w:World): ∀(kvs:List (List Int×Int)) (i j:Nat),(∀x,x∈kvs→x.1.length=t.getD 1)→
 (Instr.findAsking k (keyV t ns) (mpEs t i kvs) j).run P w= .ok ((kvGet kvs ns).map fun n=>(j+kvIdx kvs ns,iv n)) w
 |[],i,j,_=>by simp[mpEs,Instr.findAsking,kvGet]
 |x::r,i,j,h=>by
   have ih:=asking_ok hk hn w r (i+1) (j+1) fun y hy=>h y (by simp[hy])
   simp only[mpEs,Instr.findAsking,Sem.run_bind,key_equal hk hn (h x (by simp)),Result.andThen_ok,Sem.run_ite,Sem.run_pure,kvGet,kvIdx,ih]
   by_cases e:ns=x.1
   ·simp[e]
   ·simp only[e,decide_false,Bool.false_eq_true,if_false]
    congr 2
    funext n
    rw[Nat.add_assoc,Nat.add_comm 1]
theorem now_ok(w:World)(a:Int): ∀(kvs:List (List Int×Int)) (i j:Nat),(∀x,x∈kvs→x.1.length=1)→
 Instr.findNow (.int .i64) (iv a) (mpEs none i kvs) j=some ((kvGet kvs [a]).map fun n=>(j+kvIdx kvs [a],iv n))
 |[],i,j,_=>by simp[mpEs,Instr.findNow,kvGet]
 |x::r,i,j,h=>by
   have ih:=now_ok w a r (i+1) (j+1) fun y hy=>h y (by simp[hy])
   obtain⟨b,hb⟩:=List.length_eq_one_iff.1 (h x (by simp))
   simp only[mpEs,Instr.findNow,keyV,hb,List.headD_cons,Instr.sameNow,if_true,kvGet,kvIdx,ih,List.cons.injEq,and_true]
   by_cases e:a=b
   ·simp[e]
   ·simp only[e,beq_eq_false_iff_ne.2 e,if_false]
    congr 2
    funext n
    rw[Nat.add_assoc,Nat.add_comm 1]
theorem find_ok {t:Option Nat} {k:TypeId}(hk:KeyT P t k) {ns:List Int}(hn:ns.length=t.getD 1)(w:World)(kvs:List (List Int×Int))(h: ∀x,x∈kvs→x.1.length=t.getD 1):
 (Instr.findKey k (keyV t ns) (mpEs t 0 kvs)).run P w= .ok ((kvGet kvs ns).map fun n=>(kvIdx kvs ns,iv n)) w:=by
 have hask:=asking_ok hk hn w kvs 0 0 h
 simp only[Nat.zero_add]at hask
 rcases hk with ⟨rfl,hu⟩|⟨n,fs,rfl,hu,hp⟩
 ·obtain⟨a,rfl⟩:=List.length_eq_one_iff.1 hn
  have:=now_ok w a kvs 0 0 h
  simp only[Nat.zero_add]at this
  exact MapKept.run_findKey hu this
 ·cases kvs with
  |nil=>simp[Instr.findKey,run_underlying hu,mpEs,Instr.findNow,kvGet]
  |cons x r=>
    rw[←hask]
    simp[Instr.findKey,run_underlying hu,mpEs,Instr.findNow,Instr.sameNow]
theorem zeroInt_ok {el:TypeId}(h:zeroInt P el=true)(w:World):(zeroValue el).run P w= .ok (iv 0) w:=by
 unfold zeroInt at h
 split at h
 ·rename_i i hi
  split at h
  ·rename_i n hz
   have:n=0:=by simpa using h
   subst this
   simp[zeroValue,typeInfo,hi,hz]
  ·cases h
 ·cases h
theorem lookup_ok {mt k el:TypeId} {t:Option Nat}(hm:mapTag P mt=some (t,k,el))(hz:zeroInt P el=true) {ns:List Int}(hn:ns.length=t.getD 1) {w:World} {kvs:List (List Int×Int)} {b c:Nat}(hb:w.heap[b]? =some (.map (mpEs t 0 kvs).toArray c))
 (h: ∀x,x∈kvs→x.1.length=t.getD 1) (ok:Bool):
 (Instr.lookup mt (.map (some b)) (keyV t ns) ok).run P w= .ok (if ok then .tuple #[iv ((kvGet kvs ns).getD 0), .bool (kvGet kvs ns).isSome]else iv ((kvGet kvs ns).getD 0)) w:=by
 obtain⟨h1,h2,h3⟩:=mapTag_inv hm
 have hf:=find_ok h3 hn w kvs h
 simp only[Instr.lookup,Sem.run_bind,run_underlying h1,Result.andThen_ok,MapKept.run_getObj_map hb,Sem.run_pure,key_check h3 hn,hf]
 cases kvGet kvs ns with
 |none=>simp[zeroInt_ok hz]
 |some n=>simp
theorem kvIdx_lt {kvs:List (List Int×Int)} {ns:List Int} {n:Int}(h:kvGet kvs ns=some n): ∃x,kvs[kvIdx kvs ns]? =some x∧x.1=ns∧x.2=n:=by
 induction kvs with
 |nil=>cases h
 |cons y r ih=>
   simp only[kvGet,kvIdx]at h⊢
   split at h
   ·rename_i e;rw[if_pos e];cases h;exact⟨y,rfl,e.symm,rfl⟩
   ·rename_i e;rw[if_neg e];simpa using ih h
theorem mpEs_get(t:Option Nat): ∀(i:Nat) (kvs:List (List Int×Int)) (j:Nat),(mpEs t i kvs)[j]? =(kvs[j]?).map fun x=>⟨keyV t x.1,iv x.2,i+j⟩
 |_,[],j=>by simp[mpEs]
 |i,x::r,0=>by simp[mpEs]
 |i,x::r,j+1=>by
   simp only[mpEs,List.getElem?_cons_succ,mpEs_get t (i+1) r j]
   congr 1;funext y;congr 1;omega
theorem kvPut_some {kvs:List (List Int×Int)} {ns:List Int} {m:Int}(h:kvGet kvs ns=some m)(n:Int):kvPut kvs ns n=kvs.set (kvIdx kvs ns) (ns,n):=by
 induction kvs with
 |nil=>cases h
 |cons y r ih=>
   simp only[kvGet,kvIdx,kvPut]at h⊢
   split at h
   ·rename_i e;simp[e]
   ·rename_i e;simp[e,ih h]
theorem kvPut_none {kvs:List (List Int×Int)} {ns:List Int}(h:kvGet kvs ns=none)(n:Int):kvPut kvs ns n=kvs ++[(ns,n)]:=by
 induction kvs with
 |nil=>rfl
 |cons y r ih=>
   simp only[kvGet,kvPut]at h⊢
   split at h
   ·cases h
   ·rename_i e;simp[e,ih h]
theorem kvPut_mem {kvs:List (List Int×Int)} {ns:List Int} {n:Int} {x:List Int×Int}(h:x∈kvPut kvs ns n):x∈kvs∨x.1=ns:=by
 induction kvs with
 |nil=>simp[kvPut]at h;exact .inr (by rw[h])
 |cons y r ih=>
   simp only[kvPut]at h
   split at h
   ·rcases List.mem_cons.1 h with rfl|h
    ·exact .inr rfl
    ·exact .inl (by simp[h])
   ·rcases List.mem_cons.1 h with rfl|h
    ·exact .inl (by simp)
    ·rcases ih h with h|h
     ·exact .inl (by simp[h])
     ·exact .inr h
theorem mpEs_set(t:Option Nat)(kvs:List (List Int×Int))(j:Nat)(x:List Int×Int)(hj:j<kvs.length):mpEs t 0 (kvs.set j x)=(mpEs t 0 kvs).set j ⟨keyV t x.1,iv x.2,j⟩:=by
 apply List.ext_getElem?
 intro i
 rw[mpEs_get,List.getElem?_set,List.getElem?_set,mpEs_get,mpEs_len]
 by_cases e:j=i
 ·subst e;simp[hj]
 ·simp[e]
theorem mpEs_push(t:Option Nat)(kvs:List (List Int×Int))(x:List Int×Int):mpEs t 0 (kvs ++[x])=mpEs t 0 kvs ++[⟨keyV t x.1,iv x.2,kvs.length⟩]:=by
 apply List.ext_getElem?
 intro i
 rw[mpEs_get]
 by_cases h:i<kvs.length
 ·rw[List.getElem?_append_left h,List.getElem?_append_left (by rw[mpEs_len];exact h),mpEs_get]
 ·rw[List.getElem?_append_right (by omega),List.getElem?_append_right (by rw[mpEs_len];omega),mpEs_len]
  by_cases h2:i=kvs.length
  ·subst h2;simp
  ·rw[List.getElem?_eq_none (by simp;omega),List.getElem?_eq_none (by simp;omega)];rfl
theorem bits_iv(m:Nat)(a:Int):Instr.sameBits m (iv a) (iv a)=true:=by cases m<;>simp[Instr.sameBits]
theorem bits_all(m:Nat): ∀l:List Int,(((l.map iv).zip (l.map iv)).all fun x=>Instr.sameBits m x.1 x.2)=true
 |[]=>rfl
 |a::r=>by simp only[List.map_cons,List.zip_cons_cons,List.all_cons,bits_iv,bits_all m r,Bool.and_self]
theorem stays_ok(t:Option Nat)(ns:List Int)(w:World):(Instr.keyThatStays (keyV t ns) (keyV t ns)).run P w= .ok (keyV t ns) w:=by
 have:Instr.sameBits 10000 (keyV t ns) (keyV t ns)=true:=by
  cases t with
  |none=>exact bits_iv _ _
  |some n=>
    rw[show(10000:Nat)=9999+1 from rfl]
    simp only[keyV,Instr.sameBits,BEq.rfl,Bool.true_and]
    exact bits_all _ ns
 simp[Instr.keyThatStays,this]
section
variable {K : KK} {s : Stk}
theorem map_put(hS:SR K s w γ) {d l b:Nat} {t t':Option Nat} {kvs kvs':List (List Int×Int)}(hg:sget s d l=some (.mp t kvs))(hb:γ d l=some (.cell b))(hh:w.heap[b]? =some (.map (mpEs t 0 kvs).toArray kvs.length))(hk: ∀x,x∈kvs'→x.1.length=t'.getD 1):
 SR K (sput s d l (.mp t' kvs')) (w.putObj b (.map (mpEs t' 0 kvs').toArray kvs'.length)) γ∧Ext s.length w γ (w.putObj b (.map (mpEs t' 0 kvs').toArray kvs'.length)) γ:=by
 obtain⟨o,ho⟩: ∃o:Obj,o= .map (mpEs t' 0 kvs').toArray kvs'.length:=⟨_,rfl⟩
 rw[←ho]
 have hlt:b<w.heap.size:=(Array.getElem?_eq_some_iff.1 hh).1
 have hx:Ext s.length w γ (w.putObj b o) γ:=by
  refine⟨rfl,rfl,rfl,by simp,Nat.le_refl _,fun _ _ _ _ h=>h,fun _ _ _ _ h=>h,fun _ _ n blk _ h=>⟨n,blk,h, .inl ⟨rfl,rfl⟩⟩,fun _ _ lo N _ f _ h=>⟨lo,N,f,h,Nat.le_refl _,Nat.le_refl _,fun _ _ _=>rfl⟩,fun _ _ n blk _ h=>⟨n,blk,h, .inl ⟨rfl,rfl⟩⟩,?_,fun _ _ _ h=>h,?_,fun _=>rfl,?_⟩
  ·intro b1 off u h hno
   have hne:b1≠b:=by rintro rfl;simp[World.cell?,hh]at h
   rw[←h];exact World.cell?_of_block (World.putObj_heap_other hne)
  ·intro b1 _ hno
   exact World.putObj_heap_other (by rintro rfl;exact hno 0 ⟨d,l,_,hb,rfl⟩)
  ·intro l1 g1 b1 h1 h2
   exact World.putObj_heap_other (by rintro rfl;exact hS.notfrn hb rfl l1 g1 h1 h2)
 refine⟨hS.step (g:= .cell b) (hS.lt hb) hx (set_self hb).symm ⟨b,hb,by rw[World.putObj_heap_same hlt,ho],hk⟩ ?_ ?_,hx⟩
 ·intro d' l' g' b1 hne hg' hb1
  refine World.putObj_heap_other ?_
  rintro rfl
  exact hne (hS.inj d' l' g' d l _ b1 hg' hb hb1 rfl)
 ·intro b1 hb1 d' l' g' hne hg' hb'
  simp[GE.blk]at hb1;subst hb1
  exact hne (hS.inj d' l' g' d l _ b hg' hb hb' rfl)
theorem mp_inv {p:V} {u:Value} {D:Nat} {d l o:Nat}(h:VR D w γ (.mp (.ptr d l o)) u): ∃b,γ d l=some (.cell b)∧u= .map (some b):=by
 cases h with
 |mp _ q h=>
   cases q with
   |none=>cases h
   |some b=>
     cases h with
     |ptr _ _ _ b' hd hb=>exact⟨_,hb,rfl⟩
theorem mp_at(hS:SR K s w γ) {d l o:Nat} {u:Value}(h:VR s.length w γ (.mp (.ptr d l o)) u) {t:Option Nat} {kvs:List (List Int×Int)}(hg:sget s d l=some (.mp t kvs)):
 ∃b,γ d l=some (.cell b)∧u= .map (some b)∧w.heap[b]? =some (.map (mpEs t 0 kvs).toArray kvs.length)∧ ∀x,x∈kvs→x.1.length=t.getD 1:=by
 obtain⟨b,h1,rfl⟩:=mp_inv (p:= .nilp) h
 obtain⟨b',h2,h3,h4⟩:=hS.ent d l _ hg
 rw[h1]at h2;cases h2
 exact⟨b,h1,rfl,h3,h4⟩
theorem mkmap_ok(hS:SR K s w γ)(hs:s≠[]) {lab:Nat}(hn:sget s (dep s) lab=none)(mt:TypeId)(t:Option Nat):
 OpOk K s w γ ((do pure (Next.value (←Instr.makeMap mt none)):Sem Next).run P w) (.mp (.ptr (dep s) lab 0)) (some (dep s,lab, .mp t [])):=by
 have hd:=dep_succ hs
 have hx1:Ext s.length w γ w (γ.set (dep s) lab (.cell w.heap.size)):=Ext.name _ w γ (hS.none _ _ hn) (fun b off h=>by simp[GE.owns]at h;omega)
 have hx:=hx1.trans (Ext.alloc s.length w (γ.set (dep s) lab (.cell w.heap.size)) (.map #[] 0) (hS.frn_set _ _ _))
 refine⟨.map (some w.heap.size),w.alloc (.map #[] 0),γ.set (dep s) lab (.cell w.heap.size), .inl (by simp[Instr.makeMap]), .mp _ (some _) (.ptr _ _ 0 _ (by omega) (G.set_same _ _ _ _)),?_,hx⟩
 refine hS.step (by omega) hx rfl ⟨w.heap.size,G.set_same _ _ _ _,by rw[heap_alloc_new];rfl,by simp⟩ ?_ ?_
 ·intro d' l' g' b _ hg hb
  exact heap_alloc_old w _ b (hS.blk_lt hg hb)
 ·intro b hb d' l' g' _ hg hb'
  simp[GE.blk]at hb
  have:=hS.blk_lt hg hb'
  omega
theorem mget_ok(hS:SR K s w γ) {mt k el:TypeId} {t:Option Nat}(hm:mapTag P mt=some (t,k,el))(hz:zeroInt P el=true) {d l o:Nat} {u uk:Value} {vk:V} {ns:List Int}(h:VR s.length w γ (.mp (.ptr d l o)) u)(hkv:VR s.length w γ vk uk)(hk:keyInts t vk=some ns)
 {kvs:List (List Int×Int)} (hg:sget s d l=some (.mp t kvs)) (ok:Bool):
 OpOk K s w γ ((do pure (Next.value (←Instr.lookup mt u uk ok)):Sem Next).run P w) (if ok then .tup [i64 ((kvGet kvs ns).getD 0), .bool (kvGet kvs ns).isSome]else i64 ((kvGet kvs ns).getD 0)) none:=by
 obtain⟨b,h1,rfl,h3,h4⟩:=mp_at hS h hg
 obtain⟨rfl,hn⟩:=keyInts_vr hk hkv
 have:=lookup_ok hm hz hn h3 h4 ok
 refine⟨_,w,γ, .inl (by simp only[Sem.run_bind,this,Result.andThen_ok,Sem.run_pure];rfl),?_,hS,Ext.refl _ _ _⟩
 cases ok with
 |false=>exact .int _ _
 |true=>exact VR.tup_mk (LR.cons (.int _ _) (LR.cons (.bool _) LR.nil))
theorem modify_at {es:List MapEntry} {i:Nat} {e:MapEntry}(h:es[i]? =some e)(f:MapEntry→MapEntry):es.toArray.modify i f=(es.set i (f e)).toArray:=by
 apply Array.ext_getElem?
 intro j
 simp only[Array.getElem?_modify,List.getElem?_toArray,List.getElem?_set]
 by_cases hj:i=j
 ·subst hj
  obtain⟨h1,h2⟩:=List.getElem?_eq_some_iff.1 h
  simp[h1,h2]
 ·simp[hj]
theorem mput_run {mt k el:TypeId} {t:Option Nat}(hm:mapTag P mt=some (t,k,el)) {ns:List Int}(hn:ns.length=t.getD 1) {kvs:List (List Int×Int)} {b:Nat}(hb:w.heap[b]? =some (.map (mpEs t 0 kvs).toArray kvs.length))(h: ∀x,x∈kvs→x.1.length=t.getD 1)(n:Int):
 (Instr.mapUpdate mt (.map (some b)) (keyV t ns) (iv n)).run P w= .ok () (w.putObj b (.map (mpEs t 0 (kvPut kvs ns n)).toArray (kvPut kvs ns n).length)):=by
 obtain⟨h1,h2,h3⟩:=mapTag_inv hm
 have hf:=find_ok h3 hn w kvs h
 simp only[Instr.mapUpdate,Sem.run_bind,run_underlying h1,Result.andThen_ok,MapKept.run_getObj_map hb,key_check h3 hn,hf]
 cases hg:kvGet kvs ns with
 |none=>
   simp only[Option.map_none,MapKept.run_setObj_map _ hb,kvPut_none hg,mpEs_push,List.length_append,List.length_singleton,List.push_toArray]
   rfl
 |some m=>
   obtain⟨x,hx,rfl,rfl⟩:=kvIdx_lt hg
   have hlt:=(List.getElem?_eq_some_iff.1 hx).1
   have hget:(mpEs t 0 kvs)[kvIdx kvs x.1]? =some ⟨keyV t x.1,iv x.2,kvIdx kvs x.1⟩:=by simp[mpEs_get,hx]
   simp only[Option.map_some,List.getElem?_toArray,hget,Option.getD_some,Sem.run_bind,stays_ok,Result.andThen_ok,MapKept.run_setObj_map _ hb,kvPut_some hg,List.length_set,mpEs_set t kvs _ (x.1,n) hlt,modify_at hget]
   rfl
theorem ment_run {mt k el:TypeId} {t:Option Nat}(hm:mapTag P mt=some (t,k,el))(hz:zeroInt P el=true) {ns:List Int}(hn:ns.length=t.getD 1) {kvs:List (List Int×Int)} {b:Nat}(hb:w.heap[b]? =some (.map (mpEs t 0 kvs).toArray kvs.length))(h: ∀x,x∈kvs→x.1.length=t.getD 1):
 (Instr.mapEntry mt (.map (some b)) (keyV t ns)).run P w= .ok (.tuple #[iv ((kvGet kvs ns).getD 0),iv (kvIdx kvs ns)]) (w.putObj b (.map (mpEs t 0 (kvPut kvs ns ((kvGet kvs ns).getD 0))).toArray (kvPut kvs ns ((kvGet kvs ns).getD 0)).length)):=by
 obtain⟨h1,h2,h3⟩:=mapTag_inv hm
 have hf:=find_ok h3 hn w kvs h
 simp only[Instr.mapEntry,Sem.run_bind,run_underlying h1,Result.andThen_ok,MapKept.run_getObj_map hb,key_check h3 hn,hf]
 cases hg:kvGet kvs ns with
 |none=>
   have hi: ∀l:List (List Int×Int),kvGet l ns=none→kvIdx l ns=l.length:=by
    intro l
    induction l with
    |nil=>intro _;rfl
    |cons y r ih=>
      intro h
      simp only[kvGet]at h
      split at h
      ·cases h
      ·rename_i e;simp[kvIdx,e,ih h]
   simp only[Option.map_none,Sem.run_bind,zeroInt_ok hz,Result.andThen_ok,Sem.run_pure,MapKept.run_setObj_map _ hb,kvPut_none hg,mpEs_push,List.length_append,List.length_singleton,List.push_toArray,Option.getD_none,hi kvs hg]
   rfl
 |some m=>
   obtain⟨x,hx,rfl,rfl⟩:=kvIdx_lt hg
   have hlt:=(List.getElem?_eq_some_iff.1 hx).1
   have hget:(mpEs t 0 kvs)[kvIdx kvs x.1]? =some ⟨keyV t x.1,iv x.2,kvIdx kvs x.1⟩:=by simp[mpEs_get,hx]
   simp only[Option.map_some,List.getElem?_toArray,hget,Option.getD_some,Sem.run_bind,stays_ok,Result.andThen_ok,MapKept.run_setObj_map _ hb,kvPut_some hg,List.length_set,mpEs_set t kvs _ (x.1,x.2) hlt,modify_at hget,Sem.run_pure]
   rfl
theorem find_born(t:Option Nat)(kvs:List (List Int×Int)) {j:Nat}(hj:j<kvs.length):(mpEs t 0 kvs).toArray.findIdx? (fun e=>(e.born:Int)==(j:Int))=some j:=by
 rw[List.findIdx?_toArray,List.findIdx?_eq_some_iff_getElem]
 refine⟨by rw[mpEs_len];exact hj,?_,fun i hi=> ?_⟩
 ·have:=mpEs_get t 0 kvs j
  rw[List.getElem?_eq_getElem (by rw[mpEs_len];exact hj),List.getElem?_eq_getElem hj]at this
  simp only[Option.map_some,Option.some.injEq]at this
  simp[this]
 ·have:=mpEs_get t 0 kvs i
  rw[List.getElem?_eq_getElem (by rw[mpEs_len];omega),List.getElem?_eq_getElem (by omega)]at this
  simp only[Option.map_some,Option.some.injEq]at this
  simp[this];omega
theorem mest_run {mt:TypeId} {t:Option Nat} {kvs:List (List Int×Int)} {b:Nat}(hb:w.heap[b]? =some (.map (mpEs t 0 kvs).toArray kvs.length)) {j:Nat}(hj:j<kvs.length)(n:Int):
 (Instr.entryStore mt (.map (some b)) (iv j) (iv n)).run P w= .ok () (w.putObj b (.map (mpEs t 0 (kvSet kvs j n)).toArray (kvSet kvs j n).length)):=by
 have hx:kvs[j]? =some kvs[j]:=by simp
 have hget:(mpEs t 0 kvs)[j]? =some ⟨keyV t kvs[j].1,iv kvs[j].2,j⟩:=by simp[mpEs_get,hx]
 have hset:kvSet kvs j n=kvs.set j (kvs[j].1,n):=by
  unfold kvSet
  apply List.ext_getElem?
  intro i
  rw[List.getElem?_modify,List.getElem?_set]
  by_cases e:j=i
  ·subst e;simp[hj]
  ·simp[e]
 simp only[Instr.entryStore,Sem.run_bind,Result.andThen_ok,MapKept.run_getObj_map hb,asInt,asIntOf,Sem.run_pure,find_born t kvs hj,MapKept.run_setObj_map _ hb,modify_at hget,hset,List.length_set,mpEs_set t kvs _ (kvs[j].1,n) hj]
 rfl
theorem mput_ok(hS:SR K s w γ) {mt k el:TypeId} {t:Option Nat}(hm:mapTag P mt=some (t,k,el)) {d l o:Nat} {u uk:Value} {vk:V} {ns:List Int} {n:Int}(h:VR s.length w γ (.mp (.ptr d l o)) u)(hkv:VR s.length w γ vk uk)(hk:keyInts t vk=some ns)
 {kvs:List (List Int×Int)} (hg:sget s d l=some (.mp t kvs)):
 OpOk K s w γ ((do Instr.mapUpdate mt u uk (iv n);pure Next.skip:Sem Next).run P w) .undef (some (d,l, .mp t (kvPut kvs ns n))):=by
 obtain⟨b,h1,rfl,h3,h4⟩:=mp_at hS h hg
 obtain⟨rfl,hn⟩:=keyInts_vr hk hkv
 obtain⟨q1,q2⟩:=map_put hS hg h1 h3 (t':=t) (kvs':=kvPut kvs ns n) fun x hx=>by
  rcases kvPut_mem hx with hx|hx
  ·exact h4 x hx
  ·rw[hx,hn]
 exact⟨undef,_,γ, .inr ⟨by simp only[Sem.run_bind,mput_run hm hn h3 h4 n,Result.andThen_ok,Sem.run_pure],rfl⟩, .undef _,q1,q2⟩
theorem ment_ok(hS:SR K s w γ) {mt k el:TypeId} {t:Option Nat}(hm:mapTag P mt=some (t,k,el))(hz:zeroInt P el=true) {d l o:Nat} {u uk:Value} {vk:V} {ns:List Int}(h:VR s.length w γ (.mp (.ptr d l o)) u)(hkv:VR s.length w γ vk uk)(hk:keyInts t vk=some ns)
 {kvs:List (List Int×Int)} (hg:sget s d l=some (.mp t kvs)):
 OpOk K s w γ ((do pure (Next.value (←Instr.mapEntry mt u uk)):Sem Next).run P w) (.tup [i64 ((kvGet kvs ns).getD 0),i64 (kvIdx kvs ns)]) (some (d,l, .mp t (kvPut kvs ns ((kvGet kvs ns).getD 0)))):=by
 obtain⟨b,h1,rfl,h3,h4⟩:=mp_at hS h hg
 obtain⟨rfl,hn⟩:=keyInts_vr hk hkv
 obtain⟨q1,q2⟩:=map_put hS hg h1 h3 (t':=t) (kvs':=kvPut kvs ns ((kvGet kvs ns).getD 0)) fun x hx=>by
  rcases kvPut_mem hx with hx|hx
  ·exact h4 x hx
  ·rw[hx,hn]
 exact⟨_,_,γ, .inl (by simp only[Sem.run_bind,ment_run hm hz hn h3 h4,Result.andThen_ok,Sem.run_pure]),VR.tup_mk (LR.cons (.int _ _) (LR.cons (.int _ _) LR.nil)),q1,q2⟩
theorem mest_ok(hS:SR K s w γ) {mt:TypeId} {t:Option Nat} {d l o:Nat} {u:Value} {j n:Int}(h:VR s.length w γ (.mp (.ptr d l o)) u)
 {kvs:List (List Int×Int)} (hg:sget s d l=some (.mp t kvs)) (hj:0≤j∧j<kvs.length):
 OpOk K s w γ ((do Instr.entryStore mt u (iv j) (iv n);pure Next.skip:Sem Next).run P w) .undef (some (d,l, .mp t (kvSet kvs j.toNat n))):=by
 obtain⟨b,h1,rfl,h3,h4⟩:=mp_at hS h hg
 obtain⟨i,rfl⟩: ∃i:Nat,j=i:=⟨j.toNat,by omega⟩
 have hi:i<kvs.length:=by omega
 obtain⟨q1,q2⟩:=map_put hS hg h1 h3 (t':=t) (kvs':=kvSet kvs i n) fun x hx=>by
  unfold kvSet at hx
  obtain⟨m,hm⟩:=List.mem_iff_getElem?.1 hx
  rw[List.getElem?_modify]at hm
  obtain⟨y,hy,e⟩:=Option.map_eq_some_iff.1 hm
  have:=h4 y (List.mem_of_getElem? hy)
  subst e
  split<;>exact this
 simp only[Int.toNat_natCast]
 exact⟨undef,_,γ, .inr ⟨by simp only[Sem.run_bind,mest_run h3 hi n,Result.andThen_ok,Sem.run_pure],rfl⟩, .undef _,q1,q2⟩
end
def pv(p:Int×Int):Value:= .agg #[iv p.1,iv p.2]
def bv(n:Int):Value:= .int .u8 n
theorem mapPair_inv {mt:TypeId}(h:mapPair P mt=true): ∃k el,P.underlying mt=some (.map k el)∧P.underlying k=some (.int .u8)∧ ∃i,P.info? el=some i∧i.zero=some (pv (0,0)):=by
 unfold mapPair at h
 split at h
 ·rename_i k el hm
  split at h
  ·rename_i hk
   split at h
   ·rename_i i hi
    split at h
    ·rename_i cs hz
     split at h
     ·rename_i x y hc
      simp only[Bool.and_eq_true,beq_iff_eq]at h
      obtain⟨rfl,rfl⟩:=h
      refine⟨k,el,hm,hk,i,hi,?_⟩
      rw[hz]
      have:cs= #[.int .i64 0, .int .i64 0]:=by rw[←Array.toList_inj,hc]
      rw[this];rfl
     ·cases h
    ·cases h
   ·cases h
  ·cases h
 ·cases h
theorem mqEs_len: ∀(i:Nat) (kvs:List (Int×Int×Int)),(mqEs i kvs).length=kvs.length
 |_,[]=>rfl
 |i,x::r=>by simp[mqEs,mqEs_len (i+1) r]
theorem qnow_ok(a:Int): ∀(kvs:List (Int×Int×Int)) (i j:Nat),Instr.findNow (.int .u8) (bv a) (mqEs i kvs) j=some ((qGet kvs a).map fun p=>(j+qIdx kvs a,pv p))
 |[],i,j=>by simp[mqEs,Instr.findNow,qGet]
 |x::r,i,j=>by
   have ih:=qnow_ok a r (i+1) (j+1)
   simp only[mqEs,Instr.findNow,bv,Instr.sameNow,if_true,qGet,qIdx]at ih⊢
   rw[ih]
   by_cases e:a=x.1
   ·simp[e,pv]
   ·simp only[e,beq_eq_false_iff_ne.2 e,if_false]
    congr 2
    funext n
    rw[Nat.add_assoc,Nat.add_comm 1]
theorem qfind_ok {k:TypeId}(hu:P.underlying k=some (.int .u8))(a:Int)(w:World)(kvs:List (Int×Int×Int)):
 (Instr.findKey k (bv a) (mqEs 0 kvs)).run P w= .ok ((qGet kvs a).map fun p=>(qIdx kvs a,pv p)) w:=by
 have:=qnow_ok a kvs 0 0
 simp only[Nat.zero_add]at this
 exact MapKept.run_findKey hu this
theorem qcheck {k:TypeId}(hu:P.underlying k=some (.int .u8))(em:Bool)(a:Int)(w:World):(Instr.checkKey em 10000 k (bv a)).run P w= .ok () w:=by
 rw[show(10000:Nat)=9999+1 from rfl,Instr.checkKey]
 simp[bv,run_underlying hu]
theorem qzero {el:TypeId} {i:TypeInfo}(h:P.info? el=some i)(hz:i.zero=some (pv (0,0)))(w:World):(zeroValue el).run P w= .ok (pv (0,0)) w:=by
 simp[zeroValue,typeInfo,h,hz]
theorem qlookup_ok {mt:TypeId}(hm:mapPair P mt=true)(a:Int) {w:World} {kvs:List (Int×Int×Int)} {b c:Nat}(hb:w.heap[b]? =some (.map (mqEs 0 kvs).toArray c))(ok:Bool):
 (Instr.lookup mt (.map (some b)) (bv a) ok).run P w= .ok (if ok then .tuple #[pv ((qGet kvs a).getD (0,0)), .bool (qGet kvs a).isSome]else pv ((qGet kvs a).getD (0,0))) w:=by
 obtain⟨k,el,h1,h3,i,hi,hz⟩:=mapPair_inv hm
 have hf:=qfind_ok h3 a w kvs
 simp only[Instr.lookup,Sem.run_bind,run_underlying h1,Result.andThen_ok,MapKept.run_getObj_map hb,Sem.run_pure,qcheck h3,hf]
 cases qGet kvs a with
 |none=>simp[qzero hi hz]
 |some n=>simp
theorem qIdx_lt {kvs:List (Int×Int×Int)} {a:Int} {p:Int×Int}(h:qGet kvs a=some p): ∃x,kvs[qIdx kvs a]? =some x∧x.1=a∧x.2=p:=by
 induction kvs with
 |nil=>cases h
 |cons y r ih=>
   simp only[qGet,qIdx]at h⊢
   split at h
   ·rename_i e;rw[if_pos e];cases h;exact⟨y,rfl,e.symm,rfl⟩
   ·rename_i e;rw[if_neg e];simpa using ih h
theorem mqEs_get: ∀(i:Nat) (kvs:List (Int×Int×Int)) (j:Nat),(mqEs i kvs)[j]? =(kvs[j]?).map fun x=>⟨bv x.1,pv x.2,i+j⟩
 |_,[],j=>by simp[mqEs]
 |i,x::r,0=>by simp[mqEs,bv,pv]
 |i,x::r,j+1=>by
   simp only[mqEs,List.getElem?_cons_succ,mqEs_get (i+1) r j]
   congr 1;funext y;congr 1;omega
theorem qPut_some {kvs:List (Int×Int×Int)} {a:Int} {m:Int×Int}(h:qGet kvs a=some m)(n:Int×Int):qPut kvs a n=kvs.set (qIdx kvs a) (a,n):=by
 induction kvs with
 |nil=>cases h
 |cons y r ih=>
   simp only[qGet,qIdx,qPut]at h⊢
   split at h
   ·rename_i e;simp[e]
   ·rename_i e;simp[e,ih h]
theorem qPut_none {kvs:List (Int×Int×Int)} {a:Int}(h:qGet kvs a=none)(n:Int×Int):qPut kvs a n=kvs ++[(a,n)]:=by
 induction kvs with
 |nil=>rfl
 |cons y r ih=>
   simp only[qGet,qPut]at h⊢
   split at h
   ·cases h
   ·rename_i e;simp[e,ih h]
theorem mqEs_set(kvs:List (Int×Int×Int))(j:Nat)(x:Int×Int×Int)(hj:j<kvs.length):mqEs 0 (kvs.set j x)=(mqEs 0 kvs).set j ⟨bv x.1,pv x.2,j⟩:=by
 apply List.ext_getElem?
 intro i
 rw[mqEs_get,List.getElem?_set,List.getElem?_set,mqEs_get,mqEs_len]
 by_cases e:j=i
 ·subst e;simp[hj]
 ·simp[e]
theorem mqEs_push(kvs:List (Int×Int×Int))(x:Int×Int×Int):mqEs 0 (kvs ++[x])=mqEs 0 kvs ++[⟨bv x.1,pv x.2,kvs.length⟩]:=by
 apply List.ext_getElem?
 intro i
 rw[mqEs_get]
 by_cases h:i<kvs.length
 ·rw[List.getElem?_append_left h,List.getElem?_append_left (by rw[mqEs_len];exact h),mqEs_get]
 ·rw[List.getElem?_append_right (by omega),List.getElem?_append_right (by rw[mqEs_len];omega),mqEs_len]
  by_cases h2:i=kvs.length
  ·subst h2;simp
  ·rw[List.getElem?_eq_none (by simp;omega),List.getElem?_eq_none (by simp;omega)];rfl
theorem qstays(a:Int)(w:World):(Instr.keyThatStays (bv a) (bv a)).run P w= .ok (bv a) w:=by
 have:Instr.sameBits 10000 (bv a) (bv a)=true:=by
  rw[show(10000:Nat)=9999+1 from rfl];simp[bv,Instr.sameBits]
 simp[Instr.keyThatStays,this]
theorem mqput_run {mt:TypeId}(hm:mapPair P mt=true)(a:Int) {kvs:List (Int×Int×Int)} {b:Nat}(hb:w.heap[b]? =some (.map (mqEs 0 kvs).toArray kvs.length))(n:Int×Int):
 (Instr.mapUpdate mt (.map (some b)) (bv a) (pv n)).run P w= .ok () (w.putObj b (.map (mqEs 0 (qPut kvs a n)).toArray (qPut kvs a n).length)):=by
 obtain⟨k,el,h1,h3,i,hi,hz⟩:=mapPair_inv hm
 have hf:=qfind_ok h3 a w kvs
 simp only[Instr.mapUpdate,Sem.run_bind,run_underlying h1,Result.andThen_ok,MapKept.run_getObj_map hb,qcheck h3,hf]
 cases hg:qGet kvs a with
 |none=>
   simp only[Option.map_none,MapKept.run_setObj_map _ hb,qPut_none hg,mqEs_push,List.length_append,List.length_singleton,List.push_toArray]
   rfl
 |some m=>
   obtain⟨x,hx,rfl,rfl⟩:=qIdx_lt hg
   have hlt:=(List.getElem?_eq_some_iff.1 hx).1
   have hget:(mqEs 0 kvs)[qIdx kvs x.1]? =some ⟨bv x.1,pv x.2,qIdx kvs x.1⟩:=by simp[mqEs_get,hx]
   simp only[Option.map_some,List.getElem?_toArray,hget,Option.getD_some,Sem.run_bind,qstays,Result.andThen_ok,MapKept.run_setObj_map _ hb,qPut_some hg,List.length_set,mqEs_set kvs _ (x.1,n) hlt,modify_at hget]
   rfl
section
variable {K : KK} {s : Stk}
theorem mq_at(hS:SR K s w γ) {d l o:Nat} {u:Value}(h:VR s.length w γ (.mp (.ptr d l o)) u) {kvs:List (Int×Int×Int)}(hg:sget s d l=some (.mq kvs)):
 ∃b,γ d l=some (.cell b)∧u= .map (some b)∧w.heap[b]? =some (.map (mqEs 0 kvs).toArray kvs.length):=by
 obtain⟨b,h1,rfl⟩:=mp_inv (p:= .nilp) h
 obtain⟨b',h2,h3⟩:=hS.ent d l _ hg
 rw[h1]at h2;cases h2
 exact⟨b,h1,rfl,h3⟩
theorem mq_put(hS:SR K s w γ) {d l b:Nat} {kvs kvs':List (Int×Int×Int)}(hg:sget s d l=some (.mq kvs))(hb:γ d l=some (.cell b))(hh:w.heap[b]? =some (.map (mqEs 0 kvs).toArray kvs.length)):
 SR K (sput s d l (.mq kvs')) (w.putObj b (.map (mqEs 0 kvs').toArray kvs'.length)) γ∧Ext s.length w γ (w.putObj b (.map (mqEs 0 kvs').toArray kvs'.length)) γ:=by
 obtain⟨o,ho⟩: ∃o:Obj,o= .map (mqEs 0 kvs').toArray kvs'.length:=⟨_,rfl⟩
 rw[←ho]
 have hlt:b<w.heap.size:=(Array.getElem?_eq_some_iff.1 hh).1
 have hx:Ext s.length w γ (w.putObj b o) γ:=by
  refine⟨rfl,rfl,rfl,by simp,Nat.le_refl _,fun _ _ _ _ h=>h,fun _ _ _ _ h=>h,fun _ _ n blk _ h=>⟨n,blk,h, .inl ⟨rfl,rfl⟩⟩,fun _ _ lo N _ f _ h=>⟨lo,N,f,h,Nat.le_refl _,Nat.le_refl _,fun _ _ _=>rfl⟩,fun _ _ n blk _ h=>⟨n,blk,h, .inl ⟨rfl,rfl⟩⟩,?_,fun _ _ _ h=>h,?_,fun _=>rfl,?_⟩
  ·intro b1 off u h hno
   have hne:b1≠b:=by rintro rfl;simp[World.cell?,hh]at h
   rw[←h];exact World.cell?_of_block (World.putObj_heap_other hne)
  ·intro b1 _ hno
   exact World.putObj_heap_other (by rintro rfl;exact hno 0 ⟨d,l,_,hb,rfl⟩)
  ·intro l1 g1 b1 h1 h2
   exact World.putObj_heap_other (by rintro rfl;exact hS.notfrn hb rfl l1 g1 h1 h2)
 refine⟨hS.step (g:= .cell b) (hS.lt hb) hx (set_self hb).symm ⟨b,hb,by rw[World.putObj_heap_same hlt,ho]⟩ ?_ ?_,hx⟩
 ·intro d' l' g' b1 hne hg' hb1
  refine World.putObj_heap_other ?_
  rintro rfl
  exact hne (hS.inj d' l' g' d l _ b1 hg' hb hb1 rfl)
 ·intro b1 hb1 d' l' g' hne hg' hb'
  simp[GE.blk]at hb1;subst hb1
  exact hne (hS.inj d' l' g' d l _ b hg' hb hb' rfl)
theorem mkmq_ok(hS:SR K s w γ)(hs:s≠[]) {lab:Nat}(hn:sget s (dep s) lab=none)(mt:TypeId):
 OpOk K s w γ ((do pure (Next.value (←Instr.makeMap mt none)):Sem Next).run P w) (.mp (.ptr (dep s) lab 0)) (some (dep s,lab, .mq [])):=by
 have hd:=dep_succ hs
 have hx1:Ext s.length w γ w (γ.set (dep s) lab (.cell w.heap.size)):=Ext.name _ w γ (hS.none _ _ hn) (fun b off h=>by simp[GE.owns]at h;omega)
 have hx:=hx1.trans (Ext.alloc s.length w (γ.set (dep s) lab (.cell w.heap.size)) (.map #[] 0) (hS.frn_set _ _ _))
 refine⟨.map (some w.heap.size),w.alloc (.map #[] 0),γ.set (dep s) lab (.cell w.heap.size), .inl (by simp[Instr.makeMap]), .mp _ (some _) (.ptr _ _ 0 _ (by omega) (G.set_same _ _ _ _)),?_,hx⟩
 refine hS.step (by omega) hx rfl ⟨w.heap.size,G.set_same _ _ _ _,by rw[heap_alloc_new];rfl⟩ ?_ ?_
 ·intro d' l' g' b _ hg hb
  exact heap_alloc_old w _ b (hS.blk_lt hg hb)
 ·intro b hb d' l' g' _ hg hb'
  simp[GE.blk]at hb
  have:=hS.blk_lt hg hb'
  omega
theorem qval_vr {D:Nat}(p:Int×Int):VR D w γ (qVal p) (pv p):=VR.agg_mk (LR.cons (.int _ _) (LR.cons (.int _ _) LR.nil))
theorem qval_inv {D:Nat} {a b:Int} {u:Value}(h:VR D w γ (.agg [.int .i64 a, .int .i64 b]) u):u=pv (a,b):=by
 cases h with
 |agg _ us hl h=>
   have hs:us.size=2:=hl.symm
   obtain⟨x,y,rfl⟩: ∃x y,us= #[x,y]:=by
    refine⟨us[0],us[1],?_⟩
    apply Array.ext
    ·simp[hs]
    ·intro i h1 h2
     match i,h2 with
     |0,_=>rfl
     |1,_=>rfl
   have h0:=h 0 _ x rfl rfl
   have h1:=h 1 _ y rfl rfl
   rw[h0.int_inv,h1.int_inv];rfl
theorem mqget_ok(hS:SR K s w γ) {mt:TypeId}(hm:mapPair P mt=true) {d l o:Nat} {u:Value}(h:VR s.length w γ (.mp (.ptr d l o)) u)(a:Int)
 {kvs:List (Int×Int×Int)} (hg:sget s d l=some (.mq kvs)) (ok:Bool):
 OpOk K s w γ ((do pure (Next.value (←Instr.lookup mt u (bv a) ok)):Sem Next).run P w) (if ok then .tup [qVal ((qGet kvs a).getD (0,0)), .bool (qGet kvs a).isSome]else qVal ((qGet kvs a).getD (0,0))) none:=by
 obtain⟨b,h1,rfl,h3⟩:=mq_at hS h hg
 have:=qlookup_ok hm a h3 ok
 refine⟨_,w,γ, .inl (by simp only[Sem.run_bind,this,Result.andThen_ok,Sem.run_pure];rfl),?_,hS,Ext.refl _ _ _⟩
 cases ok with
 |false=>exact qval_vr _
 |true=>exact VR.tup_mk (LR.cons (qval_vr _) (LR.cons (.bool _) LR.nil))
theorem mqput_ok(hS:SR K s w γ) {mt:TypeId}(hm:mapPair P mt=true) {d l o:Nat} {u:Value}(a:Int)(n:Int×Int)(h:VR s.length w γ (.mp (.ptr d l o)) u)
 {kvs:List (Int×Int×Int)} (hg:sget s d l=some (.mq kvs)):
 OpOk K s w γ ((do Instr.mapUpdate mt u (bv a) (pv n);pure Next.skip:Sem Next).run P w) .undef (some (d,l, .mq (qPut kvs a n))):=by
 obtain⟨b,h1,rfl,h3⟩:=mq_at hS h hg
 obtain⟨q1,q2⟩:=mq_put hS hg h1 h3 (kvs':=qPut kvs a n)
 exact⟨undef,_,γ, .inr ⟨by simp only[Sem.run_bind,mqput_run hm a h3 n,Result.andThen_ok,Sem.run_pure],rfl⟩, .undef _,q1,q2⟩
end
end
end Go.Ab

/-
  'op_sound': what the evaluator says of an operation (but a call of a function), the model does.
-/
namespace Go.Ab
section
variable {K : KK} {P : Program} {s : Stk} {w : World} {γ : G} {e : Env} {a : Act}
theorem opdO_ok(hE:ER s.length w γ e a) {x:Option Operand} {y:Option Opd}(h:copdO x=some y):OR s.length w γ (y.map (Opd.ev e)) (x.map a.eval)∧y.isSome=x.isSome:=by
 cases x with
 |none=>simp[copdO]at h;subst h;exact⟨.inl ⟨rfl,rfl⟩,rfl⟩
 |some x=>
   simp only[copdO]at h
   obtain⟨z,hz,rfl⟩:=Option.map_eq_some_iff.1 h
   exact⟨.inr ⟨_,_,rfl,rfl,hE.opd hz⟩,rfl⟩
theorem lr_eval(xs:Array Operand):(xs.map a.eval)=(xs.toList.map a.eval).toArray:=by
 apply Array.ext';simp
theorem copds_cons {xs:List Operand} {x:Opd} {r:List Opd}(h:copds xs=some (x::r)): ∃p q,xs=p::q∧copd p=some x∧copds q=some r:=by
 cases xs with
 |nil=>simp[copds]at h
 |cons p q=>
   simp only[copds]at h
   split at h
   ·rename_i a b h1 h2
    cases h
    exact⟨p,q,rfl,h1,h2⟩
   ·cases h
theorem copds_nil {xs:List Operand}(h:copds xs=some []):xs=[]:=by
 cases xs with
 |nil=>rfl
 |cons p q=>
   simp only[copds]at h
   split at h<;>cases h
theorem copds_three {xs:List Operand} {x y z:Opd}(h:copds xs=some [x,y,z]): ∃p q r,xs=[p,q,r]∧copd p=some x∧copd q=some y∧copd r=some z:=by
 obtain⟨p,l,rfl,h1,h⟩:=copds_cons h
 obtain⟨q,l,rfl,h2,h⟩:=copds_cons h
 obtain⟨r,l,rfl,h3,h⟩:=copds_cons h
 obtain rfl:=copds_nil h
 exact⟨p,q,r,rfl,h1,h2,h3⟩
theorem copds_two {xs:List Operand} {x y:Opd}(h:copds xs=some [x,y]): ∃p q,xs=[p,q]∧copd p=some x∧copd q=some y:=by
 match xs,h with
 |[],h=>simp[copds]at h
 |[p],h=>
   simp only[copds]at h
   split at h
   ·rename_i a b h1 h2;simp at h2;subst h2;cases h
   ·cases h
 |p::q::r,h=>
   simp only[copds]at h
   split at h
   ·rename_i a b h1 h2
    cases h
    split at h2
    ·rename_i c d h3 h4
     cases h2
     cases r with
     |nil=>exact⟨p,q,rfl,h1,h3⟩
     |cons z r=>
       simp only[copds]at h4
       split at h4<;>cases h4
    ·cases h2
   ·cases h
theorem nil_const {y:Operand}(h:copd y=some (.c (.sl .full 0 []))):y= .const (.slice none 0 0):=by
 cases y with
 |const v=>
   simp only[copd]at h
   obtain⟨v',h1,h2⟩:=Option.map_eq_some_iff.1 h
   cases h2
   cases v with
   |agg cs=>
     simp only[cv]at h1
     obtain⟨l,_,h3⟩:=Option.map_eq_some_iff.1 h1
     cases h3
   |_=>
     simp only[cv]at h1
     unfold cvs at h1
     split at h1<;>first|(cases h1;done)|(rename_i he;cases he;rfl)|(rename_i he;first|(cases he;cases h1;done)|simp_all)
 |tmp t=>simp[copd]at h
 |func f=>simp[copd]at h
 |global g=>simp[copd]at h
theorem run_equalIn_nil(w:World)(d:Nat)(t:TypeId) {el:TypeId}(ht:P.underlying t=some (.slice el))(base:Option Addr)(n c:Nat):(Op.equalIn (d+1) t (.slice base n c) (.slice none 0 0)).run P w= .ok base.isNone w:=by
 cases base<;>simp[Op.equalIn,run_underlying ht]
theorem isnil_base(hS:SR K s w γ) {x:V} {u:Value}(h:VR s.length w γ x u) {neg:Bool} {v:V} {f:Eff} {e:Env} {lab:Nat} {o:Opd}(ho:o.ev e=x)(hv:aop (.isnil neg o) lab e s=some (v,f)):
 ∃base n c,u= .slice base n c∧f=none∧VR s.length w γ v (.bool (if neg then !base.isNone else base.isNone)):=by
 simp only[aop,ho]at hv
 split at hv
 ·rename_i c z es
  cases hv
  rcases h.sl_inv with ⟨base,cap,rfl,rfl,_⟩|⟨b,off,cap,us,rfl,_⟩
  ·exact⟨base,0,cap,rfl,rfl,by simpa using VR.anyb _⟩
  ·refine⟨_,_,_,rfl,rfl,?_⟩
   split
   ·exact .anyb _
   ·cases neg<;>exact .bool _
 ·rename_i d l z q o' n
  split at hv
  ·rename_i hal
   cases hv
   obtain⟨hd,⟨base,rfl,rfl,rfl,rfl,_⟩|⟨b,c,rfl,_⟩⟩:=alive_asl hS h hal
   ·exact⟨base,0,0,rfl,rfl,by simpa using VR.anyb _⟩
   ·refine⟨_,_,_,rfl,rfl,?_⟩
    split
    ·exact .anyb _
    ·cases neg<;>exact .bool _
  ·cases hv
 ·cases hv
  cases h with
  |csl _ n cap a hle _=>exact⟨_,_,_,rfl,rfl,by cases neg<;>exact .bool _⟩
 ·cases hv
theorem op_sound(hK:K.glob=laidG P)(hS:SR K s w γ)(hE:ER s.length w γ e a)(hs:s≠[]) {o:Oper} {ao:AOp}(h:compOp P o=some ao) {lab:Nat} {v:V} {f:Eff}(hv:aop ao lab e s=some (v,f)):
 OpOk K s w γ ((execOp a.eval o).run P w) v f:=by
 cases hop:o.op with
 |move x=>
   simp only[compOp,hop]at h
   obtain⟨y,hy,rfl⟩:=Option.map_eq_some_iff.1 h
   simp only[aop]at hv;cases hv
   simp only[execOp,hop,Sem.run_pure]
   exact OpOk.val hS (hE.opdT hy)
 |assign x=>
   simp only[compOp,hop]at h
   obtain⟨y,hy,rfl⟩:=Option.map_eq_some_iff.1 h
   simp only[aop]at hv;cases hv
   simp only[execOp,hop,Sem.run_pure]
   exact OpOk.val hS (hE.opdT hy)
 |pick c x y=>
   simp only[compOp,hop]at h
   split at h
   ·rename_i c' x' y' h1 h2 h3
    cases h
    simp only[aop]at hv
    have hc:=hE.opd h1
    split at hv
    ·rename_i hb;rw[hb]at hc
     cases hv
     simp only[execOp,hop,hc.bool_inv,asBool,Sem.run_bind,Sem.run_pure,Result.andThen_ok,if_true]
     exact OpOk.val hS (hE.opd h2)
    ·rename_i hb;rw[hb]at hc
     cases hv
     simp only[execOp,hop,hc.bool_inv,asBool,Sem.run_bind,Sem.run_pure,Result.andThen_ok,Bool.false_eq_true,if_false]
     exact OpOk.val hS (hE.opd h3)
    ·cases hv
   ·cases h
 |alloc t=>
   simp only[compOp,hop]at h
   obtain⟨z,hz,rfl⟩:=Option.map_eq_some_iff.1 h
   simp only[aop]at hv
   split at hv
   ·rename_i hc
    cases hv
    obtain⟨i,zv,hi,hz',hl,hrun⟩:=zeroT_ok hz s.length w γ
    have:=alloc_ok (K:=K) hS hc.2 (lab:=lab) (by simpa using hc.1) hl t
    simpa [execOp,hop,Instr.alloc,hrun,newVar,newRow]using this
   ·cases hv
 |box t x=>
   simp only[compOp,hop]at h
   obtain⟨y,hy,rfl⟩:=Option.map_eq_some_iff.1 h
   simp only[aop]at hv
   split at hv
   ·rename_i hc
    cases hv
    have:=alloc_ok (K:=K) hS hc.2.2 (lab:=lab) (by simpa using hc.2.1) ((hE.opdT hy).cells hc.1) t
    simpa [execOp,hop,Instr.box,newVar,newRow]using this
   ·cases hv
 |build t ps=>
   simp only[compOp,hop]at h
   simp only[execOp,hop]
   exact build_ok hS hE h hv
 |buildSlice t len ps=>
   simp only[compOp,hop]at h
   simp only[execOp,hop]
   exact lit_ok hS hE h hv
 |load t x=>
   cases x with
   |global g=>
     simp only[compOp,hop]at h
     split at h
     ·rename_i n l hn hl
      split at h
      ·rename_i he
       cases h
       simp only[aop,Opd.ev]at hv
       cases hv
       simp only[execOp,hop]
       exact glob_load hS (by rw[hK];exact hl) hn he
      ·cases h
     ·cases h
   |_=>
     simp only[compOp,hop]at h
     split at h
     ·rename_i n y hn hy
      cases h
      simp only[execOp,hop]
      exact load_sound hS hn hv (hE.opd hy)
     ·cases h
 |store t x y=>
   simp only[compOp,hop]at h
   split at h
   ·rename_i n x' y' hn hx hy
    cases h
    simp only[execOp,hop]
    exact store_sound hS hs hn hv (hE.opd hx) (hE.opdT hy)
   ·cases h
 |nilCheck x=>
   simp only[compOp,hop]at h
   obtain⟨y,hy,rfl⟩:=Option.map_eq_some_iff.1 h
   simp only[aop]at hv
   have hx:=hE.opd hy
   simp only[execOp,hop]
   generalize y.ev e=z at hx hv
   generalize a.eval x=u at hx⊢
   cases z<;>simp only[reduceCtorEq]at hv
   ·cases hv
    cases hx with
    |ptr _ _ _ b hd hb=>exact OpOk.val hS (.ptr _ _ _ b hd hb)
   ·cases hv
    have hx':=hx
    cases hx with
    |ep _ b off _ _ _ _=>exact OpOk.val hS hx'
   ·cases hv
    have hx':=hx
    cases hx with
    |fn _ _ _ us ws _ _ _ _=>exact OpOk.val hS hx'
   ·cases hv
    cases hx with
    |yld _ _ b hd hb=>exact OpOk.val hS (.yld _ _ b hd hb)
   ·split at hv
    ·rename_i ha
     cases hv
     obtain⟨b,z',rfl,hb,hd⟩:=alive_eptr hS hx ha
     exact OpOk.val hS (hb _)
    ·cases hv
 |binOp op t x y t2=>
   simp only[compOp,hop]at h
   split at h
   ·rename_i x' y' hx hy
    have ux:=hE.opd hx
    have uy:=hE.opd hy
    simp only[execOp,hop]
    have eqa: ∀(ks:List Bool) (neg:Bool),plainT P t=some ks→(∃fs,P.underlying t=some (.struct fs))→(op=if neg then .neq else .eql)→aop (.eqa ks neg x' y') lab e s=some (v,f)→
     OpOk K s w γ ((do pure (Next.value (←(do eqGuard op t x y (a.eval x) (a.eval y);Go.binOp op t (a.eval x) (a.eval y)))):Sem Next).run P w) v f:=by
     intro ks neg hk hfs hop' hv
     simp only[aop]at hv
     split at hv
     ·rename_i xs ys h1 h2
      obtain⟨r,hr,hv⟩:=Option.map_eq_some_iff.1 hv
      cases hv
      rw[h1]at ux;rw[h2]at uy
      have:=eqa_ok (P:=P) hk hfs ux uy hr op (by rw[hop'];cases neg<;>simp) x y
      refine OpOk.of_run hS this ?_
      rw[hop']
      cases neg<;>exact .bool _
     ·cases hv
    have eqb: ∀(neg:Bool),P.underlying t=some .bool→(op=if neg then .neq else .eql)→aop (.eqb neg x' y') lab e s=some (v,f)→
     OpOk K s w γ ((do pure (Next.value (←(do eqGuard op t x y (a.eval x) (a.eval y);Go.binOp op t (a.eval x) (a.eval y)))):Sem Next).run P w) v f:=by
     intro neg hk hop' hv
     simp only[aop]at hv
     split at hv
     ·rename_i p q h1 h2
      cases hv
      rw[h1]at ux;rw[h2]at uy
      rw[ux.bool_inv,uy.bool_inv,hop']
      cases neg
      ·refine OpOk.of_run hS (u:= .bool (p==q)) ?_ (.bool _)
       simp[eqGuard,Go.binOp,Op.equal,Op.maxDepth,run_equalIn_bool' w _ t p q hk]
      ·refine OpOk.of_run hS (u:= .bool (!(p==q))) ?_ (.bool _)
       simp[eqGuard,Go.binOp,Op.equal,Op.maxDepth,run_equalIn_bool' w _ t p q hk]
     ·cases hv
    have ints:aop (.bin op x' y') lab e s=some (v,f)→
     OpOk K s w γ ((do pure (Next.value (←(do eqGuard op t x y (a.eval x) (a.eval y);Go.binOp op t (a.eval x) (a.eval y)))):Sem Next).run P w) v f:=by
     intro hv
     simp only[aop]at hv
     obtain⟨v',h1,hv⟩:=Option.map_eq_some_iff.1 hv
     cases hv
     obtain⟨u,h2,h3⟩:=bin_run (P:=P) (t:=t) ux uy h1 x y
     exact OpOk.of_run hS h2 h3
    split at h
    ·rename_i fs hu
     obtain⟨ks,hk,rfl⟩:=Option.map_eq_some_iff.1 h
     exact eqa ks false hk ⟨fs,hu⟩ rfl hv
    ·rename_i fs hu
     obtain⟨ks,hk,rfl⟩:=Option.map_eq_some_iff.1 h
     exact eqa ks true hk ⟨fs,hu⟩ rfl hv
    ·cases h;exact ints hv
    ·rename_i el hu
     split at h
     ·cases h
      obtain⟨base,n,c,h1,rfl,h2⟩:=isnil_base hS ux rfl hv
      have hev:a.eval (.const (.slice none 0 0))= .slice none 0 0:=rfl
      rw[nil_const hy,h1,hev]
      refine OpOk.of_run hS ?_ h2
      simp[eqGuard,Go.binOp,Op.equal,Op.maxDepth,run_equalIn_nil w _ t hu]
     ·cases h
    ·rename_i el hu
     split at h
     ·cases h
      obtain⟨base,n,c,h1,rfl,h2⟩:=isnil_base hS ux rfl hv
      have hev:a.eval (.const (.slice none 0 0))= .slice none 0 0:=rfl
      rw[nil_const hy,h1,hev]
      refine OpOk.of_run hS ?_ h2
      simp[eqGuard,Go.binOp,Op.equal,Op.maxDepth,run_equalIn_nil w _ t hu]
     ·cases h
    ·rename_i hu
     cases h
     exact eqb false hu rfl hv
    ·rename_i hu
     cases h
     exact eqb true hu rfl hv
    ·cases h
   ·cases h
 |unOp op t x=>
   simp only[compOp,hop]at h
   obtain⟨y,hy,rfl⟩:=Option.map_eq_some_iff.1 h
   simp only[aop]at hv
   obtain⟨v',h1,hv⟩:=Option.map_eq_some_iff.1 hv
   cases hv
   obtain⟨u,h2,h3⟩:=un_run (P:=P) (hE.opd hy) h1
   simp only[execOp,hop]
   exact OpOk.of_run hS h2 h3
 |convert src dst x=>
   simp only[compOp,hop]at h
   split at h
   ·rename_i k1 k2 y h1 h2 hy
    cases h
    simp only[aop]at hv
    have hx:=hE.opd hy
    split at hv
    ·rename_i k n he
     cases hv
     rw[he]at hx
     simp only[execOp,hop,hx.int_inv]
     refine OpOk.of_run hS (u:= .int k2 (k2.wrap n)) ?_ (.int _ _)
     simp[convert,run_underlying h1,run_underlying h2,Conv.intToInt]
    ·cases hv
   ·cases h
 |makeFunc fn first cap=>
   cases fn with
   |func g=>
     simp only[compOp,hop]at h
     split at h
     ·rename_i x y hx hy
      cases h
      simp only[aop]at hv;cases hv
      simp only[execOp,hop]
      refine OpOk.of_run hS (u:= .func (.func g) (first.map a.eval) (cap.map a.eval)) rfl ?_
      rw[lr_eval first,lr_eval cap]
      exact VR.fn_mk (hE.opds hx) (hE.opds hy)
     ·cases h
   |_=>simp[compOp,hop]at h
 |slice t x lo hi mx=>
   simp only[compOp,hop]at h
   split at h
   ·rename_i el ht
    split at h
    ·rename_i x' lo' hi' mx' z hx hlo hhi hmx hz
     split at h
     ·cases h
     ·rename_i hnb
      cases h
      simp only[aop]at hv
      split at hv
      ·rename_i c z1 es he
       split at hv
       ·rename_i hzc
        split at hv
        ·cases hv
        ·rename_i h' h1
         split at hv
         ·cases hv
         ·rename_i c' h2
          split at hv
          ·cases hv
          ·rename_i l' h3
           cases hv
           have ux:=hE.opd hx
           rw[he]at ux
           simp only[execOp,hop]
           refine slice_sound hS ht hz ux (opdO_ok hE hlo).1 (opdO_ok hE hhi).1 (opdO_ok hE hmx).1 hzc h1 h2 h3 ?_
           intro hm
           have e1:=(opdO_ok hE hhi).2
           have e2:=(opdO_ok hE hmx).2
           cases mx'<;>cases hi'<;>simp_all
       ·cases hv
      ·rename_i d k z1 q o len he
       split at hv
       ·rename_i hc
        obtain⟨ha,rfl,hmn⟩:=hc
        split at hv
        ·cases hv
        ·rename_i h' h1
         split at hv
         ·cases hv
         ·rename_i l' h3
          split at hv
          ·rename_i hlt
           cases hv
           have ux:=hE.opd hx
           rw[he]at ux
           simp only[execOp,hop]
           refine aslice_sound hS ht hz ux ha (opdO_ok hE hlo).1 (opdO_ok hE hhi).1 ?_ h1 h3 hlt
           have e2:=(opdO_ok hE hmx).2
           cases mx'<;>simp_all
          ·cases hv
       ·cases hv
      ·cases hv
    ·cases h
   ·rename_i len el ht
    split at h
    ·rename_i x' hi' hx hhi hz
     split at h
     ·cases h
     ·rename_i hnb
      cases h
      simp only[Bool.or_eq_true,decide_eq_true_eq,not_or,Bool.not_eq_true,Option.isSome_eq_false_iff,Option.isNone_iff_eq_none]at hnb
      obtain⟨⟨rfl,rfl⟩,hn0⟩:=hnb
      simp only[aop]at hv
      split at hv
      ·rename_i d l off he
       split at hv
       ·rename_i h' h1
        cases hv
        have ux:=hE.opd hx
        rw[he]at ux
        generalize hux:a.eval x=u at ux
        have hho:=(opdO_ok hE hhi).1
        have bh:h'≤len∧((hi.map a.eval=none∧h'=len)∨ ∃k,hi.map a.eval=some (.int k h')):=by
         rcases hho with ⟨e1,e2⟩|⟨x,y,e1,e2,hv⟩
         ·rw[e1]at h1;simp[hiOf]at h1;subst h1;exact⟨Nat.le_refl _, .inl ⟨e2,rfl⟩⟩
         ·rw[e1]at h1
          simp only[hiOf]at h1
          split at h1
          ·rename_i n hn
           split at h1
           ·rename_i hc
            cases h1
            obtain⟨k,rfl⟩:=idx_inv hv hn
            exact⟨by omega, .inr ⟨k,by rw[e2,Int.toNat_of_nonneg hc.1]⟩⟩
           ·cases h1
          ·cases h1
        cases ux with
        |ptr _ _ _ b hd hb=>
          simp only[execOp,hop,hux]
          refine OpOk.of_run hS (u:= .slice (some ⟨b,off,none⟩) h' len) ?_ (.csl _ h' len _ bh.1 (.ptr d l off b hd hb))
          have hz0:(sizeOf el).run P w= .ok 1 w:=run_sizeOf' hz w
          have hle:(h':Int)≤(len:Int):=by omega
          rcases bh.2 with ⟨e1,rfl⟩|⟨k,e1⟩
          ·simp[Instr.sliceAt,run_underlying ht,Instr.sliceBounds,Instr.sureAddr,e1,hz0,hn0,Addr.add_lit]
          ·simp[Instr.sliceAt,run_underlying ht,Instr.sliceBounds,Instr.sliceBound,asIntOf,Instr.sureAddr,e1,hz0,hn0,hle,Addr.add_lit,show h'≤len from bh.1]
       ·cases hv
      ·cases hv
    ·cases h
   ·cases h
 |fieldAddr t x fl=>
   simp only[compOp,hop]at h
   split at h
   ·rename_i fs ht
    split at h
    ·rename_i fd y hf hy
     split at h
     ·rename_i n hn
      split at h
      ·cases h
      ·rename_i hn0
       cases h
       simp only[aop]at hv
       have hx:=hE.opd hy
       have hrun: ∀(b off:Nat),(Instr.fieldAt t (.pointer (some ⟨b,off,none⟩)) fl).run P w= .ok (.pointer (some ⟨b,off+fd.offset,none⟩)) w:=by
        intro b off
        simp[Instr.fieldAt,run_underlying ht,hf,Instr.sureAddr,fieldPlace,run_sizeOf' hn,hn0,Addr.add_lit]
       simp only[execOp,hop]
       generalize a.eval x=ux at hx⊢
       split at hv
       ·rename_i d l off he
        cases hv
        rw[he]at hx
        cases hx with
        |ptr _ _ _ b hd hb=>exact OpOk.of_run hS (hrun b off) (.ptr _ _ _ b hd hb)
       ·rename_i cs he
        cases hv
        rw[he]at hx
        have hx':=hx
        cases hx with
        |ep _ b off _ _ _ _=>exact OpOk.of_run hS (hrun b off) (ep_drop hx' _)
       ·rename_i d l q i j he
        split at hv
        ·rename_i ha
         cases hv
         rw[he]at hx
         obtain⟨b,sz,rfl,hb,hd⟩:=alive_eptr hS hx ha
         have:=hb (j+fd.offset)
         rw[←Nat.add_assoc]at this
         exact OpOk.of_run hS (hrun b (i*sz+j)) this
        ·cases hv
       ·cases hv
     ·cases h
    ·cases h
   ·cases h
 |field t x fl=>
   simp only[compOp,hop]at h
   split at h
   ·rename_i fs ht
    split at h
    ·rename_i fd y hf hy
     obtain⟨n,hn,rfl⟩:=Option.map_eq_some_iff.1 h
     simp only[aop]at hv
     have hx:=hE.opd hy
     split at hv
     ·rename_i cs he
      obtain⟨v',hp,hv⟩:=Option.map_eq_some_iff.1 hv
      cases hv
      rw[he]at hx
      obtain⟨us,hu,hl⟩:=hx.agg_inv
      obtain⟨u,h1,h2⟩:=part_ok (P:=P) (w:=w) hn hl hp
      simp only[execOp,hop,hu]
      refine OpOk.of_run hS ?_ h2
      simp[Instr.field,run_underlying ht,hf,asAgg]
      simpa using h1
     ·cases hv
    ·cases h
   ·cases h
 |indexAddr t x i=>
   simp only[compOp,hop]at h
   split at h
   ·rename_i el x' i' ht hx hi
    split at h
    ·rename_i n hn
     split at h
     ·cases h
     ·rename_i hn0
      cases h
      simp only[aop]at hv
      have ux:=hE.opd hx
      have ui:=hE.opd hi
      split at hv
      ·rename_i c z es k he hk
       split at hv
       ·rename_i hc
        split at hv
        ·rename_i cs hcs
         cases hv
         obtain⟨hk0,rfl⟩:=hc
         rw[he]at ux
         obtain⟨kk,hik⟩:=idx_inv ui hk
         obtain⟨b,off,cap,hu,hlt,hep⟩:=sl_at ux hcs
         simp only[execOp,hop,hu,hik]
         refine OpOk.of_run hS ?_ hep
         have hlt':k<(es.length:Int):=by omega
         simp[Instr.indexAt,run_underlying ht,asIntOf,run_sizeOf' hn,hk0,hlt',Addr.add_lit]
        ·cases hv
       ·cases hv
      ·rename_i d l z q o len k he hk
       split at hv
       ·rename_i hc
        cases hv
        obtain⟨hk0,hk1,rfl,ha⟩:=hc
        rw[he]at ux
        obtain⟨kk,hik⟩:=idx_inv ui hk
        generalize hux:a.eval x=u at ux
        obtain⟨hd,⟨base,_,rfl,rfl,rfl,_⟩|⟨b,c,rfl,hb,hle,hkc⟩⟩:=alive_asl hS ux ha
        ·omega
        simp only[execOp,hop,hux,hik]
        have:=hb.2.1 (o+k.toNat) 0
        refine OpOk.of_run hS ?_ this
        simp[Instr.indexAt,run_underlying ht,asIntOf,run_sizeOf' hn,hk0,hk1,Addr.add_lit,Nat.add_mul]
       ·cases hv
      ·rename_i d l o len k he hk
       split at hv
       ·rename_i hc
        cases hv
        obtain⟨hk0,hk1,rfl⟩:=hc
        rw[he]at ux
        obtain⟨kk,hik⟩:=idx_inv ui hk
        generalize hux:a.eval x=u at ux
        cases ux with
        |csl _ _ cap ad hle hp=>
          cases hp with
          |ptr _ _ _ b hd hb=>
            simp only[execOp,hop,hux,hik]
            refine OpOk.of_run hS ?_ (VR.ptr (D:=s.length) (w:=w) d l (o+k.toNat) b hd hb)
            simp[Instr.indexAt,run_underlying ht,asIntOf,run_sizeOf' hn,hk0,hk1,Addr.add_lit]
       ·cases hv
      ·cases hv
    ·cases h
   ·rename_i len el x' i' ht hx hi
    split at h
    ·rename_i n hn
     split at h
     ·cases h
     ·rename_i hn0
      cases h
      simp only[aop]at hv
      have ux:=hE.opd hx
      have ui:=hE.opd hi
      have hrun: ∀(b off:Nat) (kk:IntKind) (k:Int),0≤k→k<len→(Instr.indexAt t (.pointer (some ⟨b,off,none⟩)) (.int kk k)).run P w= .ok (.pointer (some ⟨b,off+k.toNat*n,none⟩)) w:=by
       intro b off kk k h0 h1
       simp[Instr.indexAt,run_underlying ht,asIntOf,Instr.sureAddr,run_sizeOf' hn,h0,h1,Addr.add_lit]
      split at hv
      ·rename_i d l off k he hk
       split at hv
       ·rename_i hc
        cases hv
        rw[he]at ux
        obtain⟨kk,hik⟩:=idx_inv ui hk
        cases hux:a.eval x with
        |pointer p=>
          rw[hux]at ux
          cases ux with
          |ptr _ _ _ b hd hb=>
            simp only[execOp,hop,hux,hik]
            exact OpOk.of_run hS (hrun b off kk k hc.1 hc.2) (.ptr _ _ _ b hd hb)
        |_=>rw[hux]at ux;cases ux
       ·cases hv
      ·rename_i cs k he hk
       split at hv
       ·rename_i hc
        cases hv
        rw[he]at ux
        obtain⟨kk,hik⟩:=idx_inv ui hk
        obtain⟨b,off,us,hux,_⟩:=ux.ep_inv
        rw[hux]at ux
        simp only[execOp,hop,hux,hik]
        exact OpOk.of_run hS (hrun b off kk k hc.1 hc.2) (ep_drop ux _)
       ·cases hv
      ·rename_i d l q k0 j k he hk
       split at hv
       ·rename_i hc
        cases hv
        rw[he]at ux
        obtain⟨kk,hik⟩:=idx_inv ui hk
        generalize hux:a.eval x=u at ux
        obtain⟨b,sz,rfl,hb,hd⟩:=alive_eptr hS ux hc.2
        simp only[execOp,hop,hux,hik]
        have:=hb (j+k.toNat*n)
        rw[←Nat.add_assoc]at this
        exact OpOk.of_run hS (hrun b _ kk k hc.1.1 hc.1.2) this
       ·cases hv
      ·cases hv
    ·cases h
   ·cases h
 |index t x i=>
   simp only[compOp,hop]at h
   split at h
   ·rename_i ht
    split at h
    ·rename_i bs i' hi
     cases h
     simp only[aop]at hv
     have ui:=hE.opd hi
     split at hv
     ·rename_i k hk
      split at hv
      ·rename_i h0
       split at hv
       ·rename_i b hb
        cases hv
        obtain⟨kk,hik⟩:=idx_inv ui hk
        rw[List.getElem?_map]at hb
        obtain⟨b',hb',rfl⟩:=Option.map_eq_some_iff.1 hb
        simp only[execOp,hop,hik]
        refine OpOk.of_run hS (u:= .int .u8 b'.toNat) ?_ (.int _ _)
        have hev:a.eval (.const (.string bs))= .string bs:=rfl
        have hg:bs[k.toNat]? =some b':=by
         have h1:bs.data[k.toNat]? =some b':=by simpa using hb'
         obtain⟨hlt,h2⟩:=Array.getElem?_eq_some_iff.1 h1
         have hlt':k.toNat<bs.size:=hlt
         rw[getElem?_pos bs k.toNat hlt']
         exact congrArg some h2
        simp[hev,Instr.index,run_underlying ht,asIntOf,h0,hg]
       ·cases hv
      ·cases hv
     ·cases hv
    ·cases h
   split at h
   ·rename_i len el x' i' ht hx hi
    split at h
    ·rename_i n m hn hm
     split at h
     ·cases h
     ·rename_i hn0
      cases h
      simp only[aop]at hv
      have ux:=hE.opd hx
      have ui:=hE.opd hi
      split at hv
      ·rename_i cs k he hk
       split at hv
       ·rename_i hc
        obtain⟨v',hp,hv⟩:=Option.map_eq_some_iff.1 hv
        cases hv
        rw[he]at ux
        obtain⟨kk,hik⟩:=idx_inv ui hk
        obtain⟨us,hux,hl⟩:=ux.agg_inv
        obtain⟨u,h1,h2⟩:=part_ok (P:=P) (w:=w) hm hl hp
        simp only[execOp,hop,hux,hik]
        refine OpOk.of_run hS ?_ h2
        simp[Instr.index,run_underlying ht,asIntOf,run_sizeOf' hn,hc.1,hc.2]
        simpa using h1
       ·cases hv
      ·cases hv
    ·cases h
   ·cases h
 |extract x i=>
   simp only[compOp,hop]at h
   obtain⟨y,hy,rfl⟩:=Option.map_eq_some_iff.1 h
   simp only[aop]at hv
   have hx:=hE.opd hy
   split at hv
   ·rename_i vs he
    obtain⟨x',hp,hv⟩:=Option.map_eq_some_iff.1 hv
    cases hv
    rw[he]at hx
    obtain⟨us,hu,hl⟩:=hx.tup_inv
    have hlt:i<us.size:=by have:=(List.getElem?_eq_some_iff.1 hp).1;rw[hl.1]at this;simpa using this
    simp only[execOp,hop,hu]
    refine OpOk.of_run hS (u:=us[i]) ?_ (hl.2 i _ us[i] hp (by simp[hlt]))
    simp[Instr.extract,hlt]
   ·cases hv
 |makeSlice t l c=>
   simp only[compOp,hop]at h
   split at h
   ·rename_i el ht
    split at h
    ·rename_i z i l' c' hz hi hl hc
     split at h
     ·rename_i hcond
      cases h
      simp only[aop]at hv
      split at hv
      ·rename_i n k h1 h2
       split at hv
       ·rename_i hq
        cases hv
        obtain⟨q1,q2,q3,q4,q5,q6⟩:=hq
        subst q2
        obtain⟨k1,e1⟩:=idx_inv (hE.opd hl) h1
        obtain⟨k2,e2⟩:=idx_inv (hE.opd hc) h2
        obtain⟨u,w',γ',r1,r2,r3,r4⟩:=mksl_ok (K:=K) hS q6 (lab:=lab) (by simpa using q5) ht hz hi hcond.1 hcond.2 q1 q3 q4 k1 k2
        refine⟨u,w',γ', .inl ?_,r2,r3,r4⟩
        simp[execOp,hop,e1,e2,r1]
       ·cases hv
      ·cases hv
     ·cases h
    ·cases h
   ·cases h
 |call c=>
   obtain⟨callee,args,argTypes⟩:=c
   have arr: ∀ {α:Type} {xs:Array α} {l:List α},xs.toList=l→xs=l.toArray:=fun h=>by rw[←h]
   cases callee with
   |value g=>
     exfalso
     cases g with
     |func f=>
       simp only[compOp,hop]at h
       obtain⟨y,hy,rfl⟩:=Option.map_eq_some_iff.1 h
       cases hv
     |tmp t=>
       simp only[compOp,hop]at h
       split at h
       ·cases h;cases hv
       ·cases h
     |const c=>
       simp only[compOp,hop]at h
       split at h
       ·cases h;cases hv
       ·cases h
     |global g=>
       simp only[compOp,hop]at h
       split at h
       ·cases h;cases hv
       ·cases h
   |invoke r m=>simp[compOp,hop]at h
   |builtin b=>
     cases b with
     |len=>
       simp only[compOp,hop]at h
       split at h
       ·rename_i t x ha hb
        have ea:=arr ha
        have eb:=arr hb
        subst ea;subst eb
        split at h
        ·rename_i el y ht hy
         cases h
         simp only[aop]at hv
         have hx:=hE.opd hy
         split at hv
         ·rename_i c z es he
          cases hv
          rw[he]at hx
          rcases hx.sl_inv with ⟨base,cap,hu,rfl,_⟩|⟨b,off,cap,us,hu,_⟩
          ·refine⟨.int .i64 0,w,γ, .inl ?_, .int _ _,hS,Ext.refl _ _ _⟩
           simp[execOp,hop,resolve,invoke,builtin,Builtin.len_,run_underlying ht,hu,goInt]
          ·refine⟨.int .i64 es.length,w,γ, .inl ?_, .int _ _,hS,Ext.refl _ _ _⟩
           simp[execOp,hop,resolve,invoke,builtin,Builtin.len_,run_underlying ht,hu,goInt]
         ·rename_i d l z q o n he
          split at hv
          ·rename_i hal
           cases hv
           rw[he]at hx
           generalize hux:a.eval x=u at hx
           obtain⟨hd,⟨base,rfl,rfl,rfl,rfl,_⟩|⟨b,c,rfl,_⟩⟩:=alive_asl hS hx hal
           ·refine⟨.int .i64 0,w,γ, .inl ?_, .int _ _,hS,Ext.refl _ _ _⟩
            simp[execOp,hop,resolve,invoke,builtin,Builtin.len_,run_underlying ht,hux,goInt]
           ·refine⟨.int .i64 n,w,γ, .inl ?_, .int _ _,hS,Ext.refl _ _ _⟩
            simp[execOp,hop,resolve,invoke,builtin,Builtin.len_,run_underlying ht,hux,goInt]
          ·cases hv
         ·rename_i p n he
          cases hv
          rw[he]at hx
          generalize hux:a.eval x=u at hx
          cases hx with
          |csl _ _ cap ad hle hp=>
            refine⟨.int .i64 n,w,γ, .inl ?_, .int _ _,hS,Ext.refl _ _ _⟩
            simp[execOp,hop,resolve,invoke,builtin,Builtin.len_,run_underlying ht,hux,goInt]
         ·cases hv
        ·rename_i n el y ht hy
         cases h
         simp only[aop,Opd.ev]at hv;cases hv
         refine⟨.int .i64 n,w,γ, .inl ?_, .int _ _,hS,Ext.refl _ _ _⟩
         simp[execOp,hop,resolve,invoke,builtin,Builtin.len_,run_underlying ht,goInt]
        ·cases h
       ·cases h
     |append=>
       simp only[compOp,hop]at h
       split at h
       ·rename_i t u x y ha hb
        have ea:=arr ha
        have eb:=arr hb
        subst ea;subst eb
        split at h
        ·rename_i el el' x' y' ht hu hx hy
         split at h
         ·rename_i i hi
          split at h
          ·rename_i z hz
           split at h
           ·rename_i hc
            obtain⟨h0,hzs,rfl⟩:=hc
            cases h
            simp only[aop]at hv
            have ux:=hE.opd hx
            have uy:=hE.opd hy
            split at hv
            ·rename_i c z1 es c2 z2 fs hex hey
             split at hv
             ·rename_i hc2
              rw[hex]at ux;rw[hey]at uy
              obtain⟨u,w',γ',h1,h2,h3,h4⟩:=append_ok (P:=P) hS o.type ht hi hz h0 hzs hc2.2.2.1 hc2.2.2.2 hc2.1 hc2.2.1 hv ux uy
              refine⟨u,w',γ', .inl ?_,h2,h3,h4⟩
              simp[execOp,hop,resolve,invoke,builtin,h1]
             ·cases hv
            ·rename_i d l z1 q o k c2 z2 fs hex hey
             split at hv
             ·rename_i z3 es hg
              split at hv
              ·rename_i hc2
               obtain⟨q1,q2,rfl,rfl,rfl,rfl,rfl,q3⟩:=hc2
               rw[hex]at ux;rw[hey]at uy
               obtain⟨u,w',γ',h1,h2,h3,h4⟩:=appa_ok (P:=P) hS o.type ht hi hz h0 hzs q1 q2 hg ux q3 uy hv
               refine⟨u,w',γ', .inl ?_,h2,h3,h4⟩
               simp[execOp,hop,resolve,invoke,builtin,h1]
              ·cases hv
             ·rename_i lo z3 es hg
              split at hv
              ·rename_i hc2
               obtain⟨q1,q2,rfl,rfl,rfl,rfl,rfl,rfl,q3,_⟩:=hc2
               cases hv
               rw[hex]at ux;rw[hey]at uy
               obtain⟨u,w',γ',h1,h2,h3,h4⟩:=happ_ok (P:=P) hS o.type ht hi hz hzs q1 q2 hg ux q3 uy
               refine⟨u,w',γ', .inl ?_,h2,h3,h4⟩
               simp[execOp,hop,resolve,invoke,builtin,h1]
              ·cases hv
             ·cases hv
            ·rename_i d l z1 q o' k d2 l2 z2 q2 o2 k2 hex hey
             split at hv
             ·rename_i z3 es z4 gs hg hg2
              split at hv
              ·rename_i hc2
               obtain⟨c1,c2,rfl,rfl,rfl,rfl,rfl,rfl,rfl,rfl,c3,c4,rfl,rfl,_,c5⟩:=hc2
               cases hv
               rw[hex]at ux;rw[hey]at uy
               have hlen:((gs.drop o2).take k2).length=k2:=by simp;omega
               obtain⟨blk2,e1,e2,e3⟩:=hS.ent _ _ _ hg2
               obtain⟨b2,cap2,hu2,hb2,hk2⟩: ∃b k,a.eval y= .slice (some ⟨b,o2*i.size,none⟩) k2 (k-o2)∧γ (dep s) l2=some (.arr gs.length (some (b,i.size,k)))∧gs.length≤k:=by
                have hal:aliveE gs.length (sget s (dep s) l2)=true:=by rw[hg2];simp[aliveE]
                rcases alive_asl hS uy hal with ⟨_,⟨_,_,_,_,h0',_⟩|⟨b,k,hu,hb,_,hk⟩⟩
                ·exact absurd h0' c4
                ·exact⟨b,k,hu,hb.2.2 ⟨_,_,hg2⟩,hk⟩
               rw[e1]at hb2;cases hb2
               obtain⟨_,cc,el2,e4,e5,e6,e7,e8,e9⟩:=e3
               have hfz: ∀cs,cs∈(gs.drop o2).take k2→cs.length=i.size:=fun cs hcs=>e2 cs (List.mem_of_mem_drop (List.mem_of_mem_take hcs))
               have hfl:=flatten_len _ hfz
               rw[hlen]at hfl
               have hsize:o2*i.size+k2*i.size≤cc.size:=by rw[e6,←Nat.add_mul];exact Nat.mul_le_mul_right _ (by omega)
               have hln:LR (dep s+1) w γ ((gs.drop o2).take k2).flatten ((cc.toList.drop (o2*i.size)).take (k2*i.size)):=by
                refine⟨by rw[hfl];simp;omega,fun x v u hv hu=> ?_⟩
                have hx:x<k2*i.size:=by rw[←hfl];exact(List.getElem?_eq_some_iff.1 hv).1
                rw[List.getElem?_take,if_pos hx,List.getElem?_drop]at hu
                have hx':x=x/i.size*i.size+x%i.size:=by rw[Nat.mul_comm,Nat.div_add_mod]
                have hm2:=Nat.mod_lt x h0
                rw[hx']at hv
                rw[flatten_get _ hfz _ _ hm2]at hv
                obtain⟨cs,p1,p2⟩:=Option.bind_eq_some_iff.1 hv
                rw[List.getElem?_take]at p1
                split at p1
                ·rw[List.getElem?_drop]at p1
                 refine e9 (o2+x/i.size) cs (x%i.size) v u p1 p2 ?_
                 rw[Nat.add_mul,Nat.add_assoc,←hx']
                 simpa using hu
                ·cases p1
               have hrn:RD w b2 (o2*i.size) ((cc.toList.drop (o2*i.size)).take (k2*i.size)):=by
                intro x u hu
                rw[List.getElem?_take]at hu
                split at hu
                ·rw[List.getElem?_drop]at hu
                 rw[cell_of_row w b2 (o2*i.size+x) cc el2 (0,0) e4]
                 simpa using hu
                ·cases hu
               have hone: ∀u∈(cc.toList.drop (o2*i.size)).take (k2*i.size),u.oneCell'=true:=hln.one (fun v hv=>by
                obtain⟨cs,p1,p2⟩:=List.mem_flatten.1 hv
                exact oneAll_mem (List.all_eq_true.1 c5 cs (List.mem_of_mem_drop (List.mem_of_mem_take p1))) v p2)
               obtain⟨u,w',γ',h1,h2,h3,h4⟩:=appg_ok (P:=P) hS (fs:=(gs.drop o2).take k2) (cap2:=cap2-o2) o.type ht hi hz h0 hzs (by rw[hlen];exact c1) (by rw[hlen];exact c2) hg ux (by rw[hlen];omega) hfz hln hrn hone
               rw[hlen]at h1 h2
               refine⟨u,w',γ', .inl ?_,h2,h3,h4⟩
               simp[execOp,hop,resolve,invoke,builtin,h1,hu2]
              ·cases hv
             ·cases hv
            ·cases hv
           ·cases h
          ·cases h
         ·cases h
        ·cases h
       ·cases h
     |clear=>
       simp only[compOp,hop]at h
       split at h
       ·rename_i t x ha hb
        have ea:=arr ha
        have eb:=arr hb
        subst ea;subst eb
        split at h
        ·rename_i el x' ht hx
         split at h
         ·rename_i z n hz hn
          split at h
          ·rename_i hc
           cases h
           obtain⟨hz0,rfl⟩:=hc
           simp only[aop]at hv
           have ux:=hE.opd hx
           split at hv
           ·rename_i c z1 es he
            split at hv
            ·rename_i h0
             subst h0
             cases hv
             rw[he]at ux
             rcases ux.sl_inv with ⟨base,cap,hu,_,_⟩|⟨b,off,cap,us,hu,_⟩
             ·refine⟨.tuple #[],w,γ, .inl ?_, .undef _,hS,Ext.refl _ _ _⟩
              cases base<;>simp[execOp,hop,resolve,invoke,builtin,Builtin.clear_,run_underlying ht,hu]
             ·refine⟨.tuple #[],w,γ, .inl ?_, .undef _,hS,Ext.refl _ _ _⟩
              simp[execOp,hop,resolve,invoke,builtin,Builtin.clear_,run_underlying ht,hu]
            ·cases hv
           ·rename_i d l sz q o n he
            rw[he]at ux
            split at hv
            ·rename_i z0 es hg
             split at hv
             ·rename_i hc2
              obtain⟨rfl,hle,rfl,hzl,hp,ho⟩:=hc2
              have hal:aliveE es.length (sget s d l)=true:=by rw[hg];simp[aliveE]
              obtain⟨hd,hcase⟩:=alive_asl hS ux hal
              split at hv
              ·rename_i hn0
               subst hn0
               cases hv
               rcases hcase with ⟨base,hu,_⟩|⟨b,c,hu,_⟩
               ·refine⟨.tuple #[],w,γ, .inl ?_, .undef _,hS,Ext.refl _ _ _⟩
                cases base<;>simp[execOp,hop,resolve,invoke,builtin,Builtin.clear_,run_underlying ht,hu]
               ·refine⟨.tuple #[],w,γ, .inl ?_, .undef _,hS,Ext.refl _ _ _⟩
                simp[execOp,hop,resolve,invoke,builtin,Builtin.clear_,run_underlying ht,hu]
              ·rename_i hn0
               cases hv
               rcases hcase with ⟨base,hu,_,_,h3,_⟩|⟨b,c,hu,hb,_,_⟩
               ·exact absurd h3 hn0
               ·replace hb:=hb.2.2 ⟨_,_,hg⟩
                obtain⟨i,zv,hi,hz',hl,hzr⟩:=zeroT_ok hz (d+1) w γ
                have hzs:zv.cells.size=z.length:=by simpa using hl.1.symm
                obtain⟨w',r1,r2,r3⟩:=store_run_ok (P:=P) hS hg hb (o:=o) (fs:=List.replicate n z) (us:=(Builtin.zeroCells zv.cells n).toList) (fun cs hcs=>by rw[(List.mem_replicate.1 hcs).2];exact hzl)
                 (by
                   refine⟨by simp[zeroCells_size,hzs],fun j v u h1 h2=> ?_⟩
                   have hj:j<n*z.length:=by have:=(List.getElem?_eq_some_iff.1 h1).1;simpa using this
                   rw[replicate_flatten_get _ _ _ hj]at h1
                   have hm:j%zv.cells.size<zv.cells.size:=Nat.mod_lt _ (by omega)
                   have hj2:j<n*zv.cells.size:=by rw[hzs];exact hj
                   simp only[Builtin.zeroCells,Array.toList_map,List.getElem?_map,Array.toList_range,List.getElem?_range hj2,Option.map_some,Option.some.injEq]at h2
                   rw[getElem!_pos zv.cells _ hm]at h2
                   subst h2
                   exact hl.2 (j%z.length) v _ h1 (by rw[←hzs];simp[hm])) (by
                   have: ∀m,V.oneAll (List.replicate m z).flatten=true:=by
                    intro m
                    induction m with
                    |zero=>rfl
                    |succ m ih=>
                      rw[List.replicate_succ,List.flatten_cons]
                      have app: ∀(a b:List V),V.oneAll a=true→V.oneAll b=true→V.oneAll (a ++b)=true:=by
                       intro a
                       induction a with
                       |nil=>intro b _ h;exact h
                       |cons x a iha=>intro b h1 h2;simp only[V.oneAll,Bool.and_eq_true,List.cons_append]at h1⊢;exact⟨h1.1,iha b h1.2 h2⟩
                      exact app _ _ ho ih
                   exact this n) (by simpa using hle)
                rw[List.length_replicate]at r2
                refine⟨.tuple #[],w',γ, .inl ?_, .undef _,r2,r3⟩
                obtain⟨m,rfl⟩: ∃m,n=m+1:=⟨n-1,by omega⟩
                simp[execOp,hop,resolve,invoke,builtin,Builtin.clear_,run_underlying ht,hu,hzr,r1]
             ·cases hv
            ·cases hv
           ·cases hv
          ·cases h
         ·cases h
        ·cases h
       ·cases h
     |max=>
       simp only[compOp,hop]at h
       split at h
       ·rename_i x y hc
        cases h
        obtain⟨p,q,hl,hp,hq⟩:=copds_two hc
        have eb:=arr hl
        subst eb
        simp only[aop]at hv
        have ux:=hE.opd hp
        have uy:=hE.opd hq
        split at hv
        ·rename_i k a1 k' b1 h1 h2
         split at hv
         ·rename_i hk
          cases hv
          subst hk
          rw[h1]at ux;rw[h2]at uy
          refine⟨.int k (if b1>a1 then b1 else a1),w,γ, .inl ?_, .int _ _,hS,Ext.refl _ _ _⟩
          simp[execOp,hop,resolve,invoke,builtin,ux.int_inv,uy.int_inv,Builtin.max_,Builtin.max2]
         ·cases hv
        ·cases hv
       ·rename_i x y z hc
        cases h
        obtain⟨p,q,r,hl,hp,hq,hr⟩:=copds_three hc
        have eb:=arr hl
        subst eb
        simp only[aop]at hv
        have ux:=hE.opd hp
        have uy:=hE.opd hq
        have uz:=hE.opd hr
        split at hv
        ·rename_i k a1 k' b1 k'' c1 h1 h2 h3
         split at hv
         ·rename_i hk
          cases hv
          obtain⟨rfl,rfl⟩:=hk
          rw[h1]at ux;rw[h2]at uy;rw[h3]at uz
          refine⟨.int k (if c1>(if b1>a1 then b1 else a1)then c1 else(if b1>a1 then b1 else a1)),w,γ, .inl ?_, .int _ _,hS,Ext.refl _ _ _⟩
          by_cases g1:b1>a1
          ·by_cases g2:c1>b1
           ·simp[execOp,hop,resolve,invoke,builtin,ux.int_inv,uy.int_inv,uz.int_inv,Builtin.max_,Builtin.max2,g1,g2]
           ·simp[execOp,hop,resolve,invoke,builtin,ux.int_inv,uy.int_inv,uz.int_inv,Builtin.max_,Builtin.max2,g1,g2]
          ·by_cases g2:c1>a1
           ·simp[execOp,hop,resolve,invoke,builtin,ux.int_inv,uy.int_inv,uz.int_inv,Builtin.max_,Builtin.max2,g1,g2]
           ·simp[execOp,hop,resolve,invoke,builtin,ux.int_inv,uy.int_inv,uz.int_inv,Builtin.max_,Builtin.max2,g1,g2]
         ·cases hv
        ·cases hv
       ·cases h
     |min=>
       simp only[compOp,hop]at h
       split at h
       ·rename_i x y hc
        cases h
        obtain⟨p,q,hl,hp,hq⟩:=copds_two hc
        have eb:=arr hl
        subst eb
        simp only[aop]at hv
        have ux:=hE.opd hp
        have uy:=hE.opd hq
        split at hv
        ·rename_i k a1 k' b1 h1 h2
         split at hv
         ·rename_i hk
          cases hv
          subst hk
          rw[h1]at ux;rw[h2]at uy
          refine⟨.int k (if b1<a1 then b1 else a1),w,γ, .inl ?_, .int _ _,hS,Ext.refl _ _ _⟩
          simp[execOp,hop,resolve,invoke,builtin,ux.int_inv,uy.int_inv,Builtin.min_,Builtin.min2]
         ·cases hv
        ·cases hv
       ·rename_i x y z hc
        cases h
        obtain⟨p,q,r,hl,hp,hq,hr⟩:=copds_three hc
        have eb:=arr hl
        subst eb
        simp only[aop]at hv
        have ux:=hE.opd hp
        have uy:=hE.opd hq
        have uz:=hE.opd hr
        split at hv
        ·rename_i k a1 k' b1 k'' c1 h1 h2 h3
         split at hv
         ·rename_i hk
          cases hv
          obtain⟨rfl,rfl⟩:=hk
          rw[h1]at ux;rw[h2]at uy;rw[h3]at uz
          refine⟨.int k (if c1<(if b1<a1 then b1 else a1)then c1 else(if b1<a1 then b1 else a1)),w,γ, .inl ?_, .int _ _,hS,Ext.refl _ _ _⟩
          by_cases g1:b1<a1
          ·by_cases g2:c1<b1
           ·simp[execOp,hop,resolve,invoke,builtin,ux.int_inv,uy.int_inv,uz.int_inv,Builtin.min_,Builtin.min2,g1,g2]
           ·simp[execOp,hop,resolve,invoke,builtin,ux.int_inv,uy.int_inv,uz.int_inv,Builtin.min_,Builtin.min2,g1,g2]
          ·by_cases g2:c1<a1
           ·simp[execOp,hop,resolve,invoke,builtin,ux.int_inv,uy.int_inv,uz.int_inv,Builtin.min_,Builtin.min2,g1,g2]
           ·simp[execOp,hop,resolve,invoke,builtin,ux.int_inv,uy.int_inv,uz.int_inv,Builtin.min_,Builtin.min2,g1,g2]
         ·cases hv
        ·cases hv
       ·cases h
     |_=>simp[compOp,hop]at h
 |makeMap t r=>
   cases r with
   |some x=>simp[compOp,hop]at h
   |none=>
     simp only[compOp,hop]at h
     split at h
     ·cases h
      simp only[aop]at hv
      split at hv
      ·rename_i hc
       cases hv
       simp only[execOp,hop]
       exact mkmq_ok hS hs (by simpa using hc.1) t
      ·cases hv
     ·obtain⟨g,hg,rfl⟩:=Option.map_eq_some_iff.1 h
      simp only[aop]at hv
      split at hv
      ·rename_i hc
       cases hv
       simp only[execOp,hop]
       exact mkmap_ok hS hs (by simpa using hc.1) t g.1
      ·cases hv
 |lookup t m k ok=>
   simp only[compOp,hop]at h
   split at h
   ·rename_i hp
    split at h
    ·rename_i m' k' hm hk
     cases h
     simp only[aop]at hv
     split at hv
     ·rename_i d l o n he hke
      split at hv
      ·rename_i kvs hsg
       split at hv
       ·rename_i hc
        subst hc
        cases hv
        have um:=hE.opd hm
        rw[he]at um
        have uk:=hE.opd hk
        rw[hke]at uk
        simp only[execOp,hop]
        rw[uk.int_inv]
        exact mqget_ok hS hp um n hsg ok
       ·cases hv
      ·cases hv
     ·cases hv
    ·cases h
   ·split at h
    ·rename_i g m' k' hg hm hk
     split at h
     ·rename_i hz
      cases h
      simp only[aop]at hv
      split at hv
      ·rename_i d l o ns he hn
       split at hv
       ·rename_i t' kvs hsg
        split at hv
        ·rename_i hc
         obtain⟨rfl,rfl⟩:=hc
         cases hv
         have um:=hE.opd hm
         rw[he]at um
         simp only[execOp,hop]
         exact mget_ok hS (t:=g.1) (k:=g.2.1) (el:=g.2.2) hg hz um (hE.opd hk) hn hsg ok
        ·cases hv
       ·cases hv
      ·cases hv
     ·cases h
    ·cases h
 |insert t m k x=>
   simp only[compOp,hop]at h
   split at h
   ·rename_i hp
    split at h
    ·rename_i m' k' x' hm hk hx
     cases h
     simp only[aop]at hv
     split at hv
     ·rename_i d l o n a b he hke hxe
      split at hv
      ·rename_i kvs hsg
       split at hv
       ·rename_i hc
        subst hc
        cases hv
        have um:=hE.opd hm
        rw[he]at um
        have uk:=hE.opd hk
        rw[hke]at uk
        have ux:=hE.opd hx
        rw[hxe]at ux
        simp only[execOp,hop]
        rw[uk.int_inv,qval_inv ux]
        exact mqput_ok hS hp n (a,b) um hsg
       ·cases hv
      ·cases hv
     ·cases hv
    ·cases h
   ·cases h
 |mapUpdate t m k x=>
   simp only[compOp,hop]at h
   split at h
   ·rename_i hp
    split at h
    ·rename_i m' k' x' hm hk hx
     cases h
     simp only[aop]at hv
     split at hv
     ·rename_i d l o n a b he hke hxe
      split at hv
      ·rename_i kvs hsg
       split at hv
       ·rename_i hc
        subst hc
        cases hv
        have um:=hE.opd hm
        rw[he]at um
        have uk:=hE.opd hk
        rw[hke]at uk
        have ux:=hE.opd hx
        rw[hxe]at ux
        simp only[execOp,hop]
        rw[uk.int_inv,qval_inv ux]
        exact mqput_ok hS hp n (a,b) um hsg
       ·cases hv
      ·cases hv
     ·cases hv
    ·cases h
   ·split at h
    ·rename_i g m' k' x' hg hm hk hx
     cases h
     simp only[aop]at hv
     split at hv
     ·rename_i d l o ns n he hn hxe
      split at hv
      ·rename_i t' kvs hsg
       split at hv
       ·rename_i hc
        obtain⟨rfl,rfl⟩:=hc
        cases hv
        have um:=hE.opd hm
        rw[he]at um
        have ux:=hE.opd hx
        rw[hxe]at ux
        simp only[execOp,hop]
        rw[ux.int_inv]
        exact mput_ok hS (t:=g.1) (k:=g.2.1) (el:=g.2.2) hg um (hE.opd hk) hn hsg
       ·cases hv
      ·cases hv
     ·cases hv
    ·cases h
 |mapEntry t m k=>
   simp only[compOp,hop]at h
   split at h
   ·rename_i g m' k' hg hm hk
    split at h
    ·rename_i hz
     cases h
     simp only[aop]at hv
     split at hv
     ·rename_i d l o ns he hn
      split at hv
      ·rename_i t' kvs hsg
       split at hv
       ·rename_i hc
        obtain⟨rfl,rfl⟩:=hc
        cases hv
        have um:=hE.opd hm
        rw[he]at um
        simp only[execOp,hop]
        exact ment_ok hS (t:=g.1) (k:=g.2.1) (el:=g.2.2) hg hz um (hE.opd hk) hn hsg
       ·cases hv
      ·cases hv
     ·cases hv
    ·cases h
   ·cases h
 |entryStore t m i x=>
   simp only[compOp,hop]at h
   split at h
   ·rename_i m' i' x' hm hi hx
    cases h
    simp only[aop]at hv
    split at hv
    ·rename_i d l o j n he hie hxe
     split at hv
     ·rename_i t' kvs hsg
      split at hv
      ·rename_i hc
       obtain⟨hc,rfl⟩:=hc
       cases hv
       have um:=hE.opd hm
       rw[he]at um
       have ux:=hE.opd hx
       rw[hxe]at ux
       have ui:=hE.opd hi
       rw[hie]at ui
       simp only[execOp,hop]
       rw[ux.int_inv,ui.int_inv]
       exact mest_ok hS um hsg hc
      ·cases hv
     ·cases hv
    ·cases hv
   ·cases h
 |_=>simp[compOp,hop]at h
theorem arr_read(hS:SR K s w γ) {d l:Nat} {u:Value} {z q f n:Nat}(h:VR s.length w γ (.asl d l z q f n) u) {z':Nat} {es:List (List V)}(hg:sget s d l=some (.arr z' es))(hq:q=es.length)(hn:f+n≤es.length):
 ((u= .slice none 0 0∨ ∃a c,u= .slice (some a) 0 c)∧((es.map V.stripAll).drop f).take n=[])∨
 ∃b off cap us,u= .slice (some ⟨b,off,none⟩) (((es.map V.stripAll).drop f).take n).length cap∧(∀cs,cs∈((es.map V.stripAll).drop f).take n→cs.length=z)∧LR s.length w γ (((es.map V.stripAll).drop f).take n).flatten us∧RD w b off us∧
  (∀k,γ d l=some (.arr q (some (b,z,k)))→off=f*z∧cap=k-f)∧ ∃k,γ d l=some (.arr q (some (b,z,k))):=by
 obtain⟨blk,h1,h0,h2⟩:=hS.ent d l _ hg
 have hal:aliveE q (sget s d l)=true:=by rw[hg];simp[aliveE,hq]
 rcases alive_asl hS h hal with ⟨hd,⟨base,rfl,_,rfl,rfl,_⟩|⟨b,k,rfl,hb,hle,hk⟩⟩
 ·refine .inl ⟨?_,by simp⟩
  cases base with
  |none=>exact .inl rfl
  |some a=>exact .inr ⟨_,_,rfl⟩
 ·replace hb:=hb.2.2 ⟨_,_,hg⟩
  rw[hb,hq]at h1;cases h1
  obtain⟨rfl,c,e,h3,h4,h5,h6,h7,h8⟩:=h2
  have hsl: ∀(vs:List V),(V.stripAll vs).length=vs.length:=by
   intro vs
   induction vs with
   |nil=>rfl
   |cons x r ih=>simp[V.stripAll,ih]
  have hz: ∀cs,cs∈((es.map V.stripAll).drop f).take n→cs.length=z:=by
   intro cs hc
   obtain⟨x,hx,rfl⟩:=List.mem_map.1 (List.mem_of_mem_drop (List.mem_of_mem_take hc))
   rw[hsl];exact h0 x hx
  have hlen:(((es.map V.stripAll).drop f).take n).length=n:=by simp;omega
  have hfl:=flatten_len _ hz
  rw[hlen]at hfl
  have hsize:f*z+n*z≤c.size:=by rw[h5,←Nat.add_mul];exact Nat.mul_le_mul_right _ (by omega)
  refine .inr ⟨b,f*z,k-f,(c.toList.drop (f*z)).take (n*z),by rw[hlen],hz,⟨by rw[hfl];simp;omega,fun x v u hv hu=> ?_⟩,?_,fun k' hk'=> ?_,k,hb⟩
  ·have hx:x<n*z:=by rw[←hfl];exact(List.getElem?_eq_some_iff.1 hv).1
   rw[List.getElem?_take,if_pos hx,List.getElem?_drop]at hu
   have hx':x=x/z*z+x%z:=by rw[Nat.mul_comm,Nat.div_add_mod]
   have hm:=Nat.mod_lt x h6
   rw[hx']at hv hu
   rw[flatten_get _ hz _ _ hm]at hv
   obtain⟨cs,k1,k2⟩:=Option.bind_eq_some_iff.1 hv
   rw[List.getElem?_take]at k1
   split at k1
   ·rw[List.getElem?_drop,List.getElem?_map]at k1
    obtain⟨cs0,k3,rfl⟩:=Option.map_eq_some_iff.1 k1
    have hl0:LR (d+1) w γ cs0 ((c.toList.drop ((f+x/z)*z)).take z):=by
     have hlt:f+x/z<es.length:=(List.getElem?_eq_some_iff.1 k3).1
     have hfit:(f+x/z)*z+z≤c.size:=by
      rw[h5]
      calc (f+x/z)*z+z=(f+x/z+1)*z:=by rw[Nat.add_mul (f+x/z)];omega
       _≤k*z:=Nat.mul_le_mul_right _ (by omega)
     refine⟨by rw[h0 cs0 (List.mem_of_getElem? k3)];simp;omega,fun j v u hv hu=> ?_⟩
     rw[List.getElem?_take]at hu
     split at hu
     ·rw[List.getElem?_drop]at hu
      exact h8 _ cs0 j v u k3 hv (by simpa using hu)
     ·cases hu
    have hl1:=(LR.strip' _ _ hl0).mono (show d+1≤s.length by omega)
    refine hl1.2 (x%z) v u k2 ?_
    rw[List.getElem?_take,if_pos hm,List.getElem?_drop,Nat.add_mul,Nat.add_assoc]
    exact hu
   ·cases k1
  ·intro j u hu
   rw[List.getElem?_take]at hu
   split at hu
   ·rw[List.getElem?_drop]at hu
    rw[cell_of_row w b (f*z+j) c e (0,0) h3]
    simpa using hu
   ·cases hu
  ·rw[hb]at hk';cases hk';exact⟨rfl,rfl⟩
theorem flat_one(l:List V):(l.map fun v=>[v]).flatten=l:=by
 induction l with
 |nil=>rfl
 |cons v r ih=>simp only[List.map_cons,List.flatten_cons,ih,List.singleton_append]
theorem csl_read(hS:SR K s w γ) {d l o n:Nat} {u:Value}(h:VR s.length w γ (.csl (.ptr d l o) n) u) {cs:List V}(hg:sget s d l=some (.cell cs))(hn:o+n≤cs.length) {z:Nat}(hz:z=1):
 ∃b off cap us,u= .slice (some ⟨b,off,none⟩) (((cs.drop o).take n).map fun v=>[v]).length cap∧(∀x,x∈((cs.drop o).take n).map (fun v=>[v])→x.length=z)∧LR s.length w γ (((cs.drop o).take n).map fun v=>[v]).flatten us∧RD w b off us:=by
 cases h with
 |csl _ _ cap a hle hp=>
   cases hp with
   |ptr _ _ _ b hd hb=>
     obtain⟨b',c,e,h1,h2,h3⟩:=hS.cell hg
     rw[hb]at h1;cases h1
     refine⟨b,o,cap,(c.toList.drop o).take n,?_,?_,?_,?_⟩
     ·have:(((cs.drop o).take n).map fun v=>[v]).length=n:=by simp;omega
      rw[this]
     ·intro x hx
      obtain⟨v,_,rfl⟩:=List.mem_map.1 hx
      simp[hz]
     ·rw[flat_one]
      exact((h3.drop o).take n).mono (by omega)
     ·intro j u hu
      have hr:=RD.row h2 o
      rw[List.getElem?_take]at hu
      split at hu
      ·exact hr j u hu
      ·cases hu
theorem lit_inv {o:Oper} {z:List V} {n:Nat} {qs:List (Nat×Opd)}(h:compOp P o=some (.lit z n qs)):
 ∃t el ps,o.op= .buildSlice t n ps∧P.underlying t=some (.slice el)∧zeroT P el=some z∧partsL P el ps.toList=some qs∧0<z.length∧n*z.length≤4096∧sizeT P el=some z.length:=by
 cases hop:o.op with
 |buildSlice t len ps=>
   simp only[compOp,hop]at h
   split at h
   ·rename_i el hu
    split at h
    ·rename_i z' qs' hz hq
     split at h
     ·rename_i hc
      cases h
      exact⟨t,el,ps,rfl,hu,hz,hq,hc.1,hc.2.1,hc.2.2⟩
     ·cases h
    ·cases h
   ·cases h
 |call c=>
   exfalso
   obtain⟨callee,args,argTypes⟩:=c
   cases callee with
   |builtin b=>
     cases b<;>simp only[compOp,hop,reduceCtorEq]at h
     all_goals (repeat' (split at h))
     all_goals (cases h;done)
   |value g=>
     cases g with
     |func f=>
       simp only[compOp,hop]at h
       obtain⟨y,hy,h⟩:=Option.map_eq_some_iff.1 h
       cases h
     |tmp t=>
       simp only[compOp,hop]at h
       split at h<;>cases h
     |const c=>
       simp only[compOp,hop]at h
       split at h<;>cases h
     |global g=>
       simp only[compOp,hop]at h
       split at h<;>cases h
   |invoke r m=>simp[compOp,hop]at h
 |_=>
   exfalso
   simp only[compOp,hop,reduceCtorEq]at h
   all_goals first
    |(obtain⟨_,_,h⟩:=Option.map_eq_some_iff.1 h;cases h;done)
    | (repeat' (split at h)
       all_goals first|contradiction|(cases h;done)|(obtain⟨_,_,h⟩:=Option.map_eq_some_iff.1 h;cases h;done))
theorem op_soundM(hK:K.glob=laidG P)(hS:SR K s w γ)(hE:ER s.length w γ e a)(hs:s≠[]) {o:Oper} {m:Bool} {ao:AOp}(h:compOpM P m o=some ao) {lab:Nat} {v:V} {f:Eff}(hv:aop ao lab e s=some (v,f)):
 OpOk K s w γ ((execOp a.eval o).run P w) v f:=by
 have h':=(compOpM_cases h).2
 clear h
 rcases h' with h|rfl
 rotate_left
 ·simp only[aop]at hv;cases hv
 unfold compOpN at h
 split at h
 ·obtain⟨ao0,h0,h2⟩:=Option.map_eq_some_iff.1 h
  clear h
  have h:=h0
  clear h0
  subst h2
  cases ao0 with
  |app esz bytes x0 y0=>
    simp only[AOp.mut]at hv
    cases hop:o.op with
    |call c=>
      obtain⟨callee,args,argTypes⟩:=c
      have arr: ∀ {α:Type} {xs:Array α} {l:List α},xs.toList=l→xs=l.toArray:=fun h=>by rw[←h]
      cases callee with
      |builtin b=>
        cases b with
        |append=>
          simp only[compOp,hop]at h
          split at h
          ·rename_i t u x y ha hb
           have ea:=arr ha
           have eb:=arr hb
           subst ea;subst eb
           split at h
           ·rename_i el el' x' y' ht hu hx hy
            split at h
            ·rename_i i hi
             split at h
             ·rename_i z hz
              split at h
              ·rename_i hc
               obtain⟨h0,hzs,rfl⟩:=hc
               cases h
               simp only[aop]at hv
               have ux:=hE.opd hx
               have uy:=hE.opd hy
               split at hv
               ·rename_i z1 hex
                rw[hex]at ux
                split at hv
                ·rename_i fs hfs
                 split at hv
                 ·rename_i hc2
                  cases hv
                  obtain⟨c1,c2,c3,c4,c5⟩:=hc2
                  have hY:((a.eval y= .slice none 0 0∨ ∃p c,a.eval y= .slice (some p) 0 c)∧fs=[])∨ ∃b off cap us,a.eval y= .slice (some ⟨b,off,none⟩) fs.length cap∧(∀cs,cs∈fs→cs.length=i.size)∧LR s.length w γ fs.flatten us∧RD w b off us:=by
                   split at hfs
                   ·rename_i c z2 gs hey
                    rw[hey]at uy
                    split at hfs
                    ·rename_i hz2
                     cases hfs
                     rcases uy.sl_inv with ⟨base,cap,e0,rfl,_,hb0⟩|⟨b,off,cap,us,e0,q1,q2,_,_,q3,q4,_⟩
                     ·refine .inl ⟨?_,rfl⟩
                      cases base with
                      |none=>have:=hb0 rfl;subst this;exact .inl e0
                      |some a=>exact .inr ⟨_,_,e0⟩
                     ·by_cases hf:fs=[]
                      ·subst hf
                       exact .inl ⟨.inr ⟨_,_,e0⟩,rfl⟩
                      ·refine .inr ⟨b,off,cap,us,e0,?_,q3,q4⟩
                       rw[←hz2.resolve_right hf];exact q1
                    ·cases hfs
                   ·rename_i d l z2 q f n hey
                    rw[hey]at uy
                    split at hfs
                    ·rename_i z3 gs hg
                     split at hfs
                     ·rename_i hz2
                      cases hfs
                      obtain⟨rfl,hq,hn⟩:=hz2
                      rcases arr_read hS uy hg hq hn with h|⟨b,off,cap,us,q1,q2,q3,q4,_⟩
                      ·exact .inl h
                      ·exact .inr ⟨b,off,cap,us,q1,q2,q3,q4⟩
                     ·cases hfs
                    ·cases hfs
                   ·rename_i d l o n hey
                    rw[hey]at uy
                    split at hfs
                    ·rename_i cs hg
                     split at hfs
                     ·rename_i hz2
                      cases hfs
                      obtain⟨h1,hn⟩:=hz2
                      exact .inr (csl_read hS uy hg hn h1)
                     ·cases hfs
                    ·cases hfs
                   ·cases hfs
                  obtain⟨u,w',γ',h1,h2,h3,h4⟩:=appm_ok (P:=P) hS c5 (by simpa using c4) o.type ht hi hz h0 hzs c1 c2 ux hY
                  refine⟨u,w',γ', .inl ?_,h2,h3,h4⟩
                  simp[execOp,hop,resolve,invoke,builtin,h1]
                 ·cases hv
                ·cases hv
               ·cases hv
              ·cases h
             ·cases h
            ·cases h
           ·cases h
          ·cases h
        |_=>
          exfalso
          simp only[compOp,hop,reduceCtorEq]at h
          repeat' (split at h)
          all_goals (cases h;done)
      |value g=>
        exfalso
        cases g with
        |func f=>
          simp only[compOp,hop]at h
          obtain⟨y,hy,h⟩:=Option.map_eq_some_iff.1 h
          cases h
        |tmp t=>
          simp only[compOp,hop]at h
          split at h<;>cases h
        |const c=>
          simp only[compOp,hop]at h
          split at h<;>cases h
        |global g=>
          simp only[compOp,hop]at h
          split at h<;>cases h
      |invoke r m=>simp[compOp,hop]at h
    |_=>
      exfalso
      simp only[compOp,hop,reduceCtorEq]at h
      all_goals first
       |(obtain⟨_,_,h⟩:=Option.map_eq_some_iff.1 h;cases h;done)
       | (repeat' (split at h)
          all_goals first|contradiction|(cases h;done)|(obtain⟨_,_,h⟩:=Option.map_eq_some_iff.1 h;cases h;done))
  |mksl z b l c=>exact op_sound hK hS hE hs h (lab:=freshL s 9 lab) (by simpa only[AOp.mut,aop]using hv)
  |lit z n ps=>
    obtain⟨t,el,ps',hop,hu,hz,hq,h0,hsm,hsz⟩:=lit_inv h
    simp only[AOp.mut]at hv
    simp only[execOp,hop]
    exact litm_ok hS hE hu hz hq h0 hsm hsz hv
  |_=>exact op_sound hK hS hE hs h (by simpa only[AOp.mut]using hv)
 ·exact op_sound hK hS hE hs h hv
end
end Go.Ab

/-
  Regions in the order of the text.
-/
namespace Go.Ab
def Wide(F:Fence):Prop:=F=Fence.wide∨ ∃l,F=Fence.wide.inRound l
theorem Wide.fn {F:Fence}(h:Wide F)(f:FuncId):F.fn f:=by rcases h with rfl|⟨l,rfl⟩<;>trivial
theorem Wide.depth {F:Fence}(h:Wide F):F.depth=none:=by rcases h with rfl|⟨l,rfl⟩<;>rfl
theorem Wide.calls {F:Fence}(h:Wide F) {n:Nat} {P:Program} {f:FuncId} {args:Array Value} {w:World} {R:Ending→World→Prop}(hc:Calls P f args w R):CallsIn F n P f args w R:=by
 rcases h with rfl|⟨l,rfl⟩
 ·exact callsIn_wide.2 hc
 ·exact(callsIn_wide.2 hc:CallsIn Fence.wide n P f args w R)
theorem roundIn_wide {F:Fence}(h:Wide F) {n m:Nat} {P:Program} {l:Nat} {f:FuncId} {tmps:Array Value} {assign body:Code} {w:World} {R:Ending→World→Prop}(hc:RoundIn Fence.wide m P l f tmps assign body w R):RoundIn F n P l f tmps assign body w R:=by
 obtain⟨_,h2⟩:=hc
 refine⟨h.fn f,fun c cs _=> ?_⟩
 obtain⟨e,w',h3,h4⟩:=h2 c cs (room_wide _)
 refine⟨e,w',h3,?_⟩
 rcases h with rfl|⟨l',rfl⟩
 ·exact h4
 ·exact h4
section
variable (K : KK) (P : Program)
def CPost(s:Stk)(w:World)(γ:G)(v:V)(s':Stk):Ending→World→Prop:=fun en w'=>
 ∃u γ',en= .returned u∧VR s'.length w' γ' v u∧SR K s' w' γ'∧Ext s.length w γ w' γ'∧s'.length=s.length
def Enters(f:FuncId):Prop:= ∀args w,(callFunc f args).run P w= .ok (.enter f args) w
def StatOk(T:Tab)(X:Exec):Prop:= ∀f args lab s v s',enter T X f args lab s=some (v,s')→Enters P f∧
 ∀w γ us,LR s.length w γ args us→SR K s w γ→Calls P f us.toArray w (CPost K s w γ v s')
def YldOk(T:Tab)(X:Exec):Prop:= ∀d l args lab s v s',enterV T X (.yld d l) args lab s=some (v,s')→
 ∀w γ b us,γ d l=some (.obj b)→LR s.length w γ args us→SR K s w γ→ ∃f tmps assign body,(Instr.yield b us.toArray).run P w= .ok (.round b f tmps assign body) w∧
  RoundIn Fence.wide 0 P b f tmps assign body w (CPost K s w γ v s')
end
section
variable {K : KK} {P : Program} {T : Tab} {X : Exec} {s : Stk} {w : World} {γ : G} {e : Env} {a : Act}
theorem comp_call {o:Oper} {f:FuncId} {args:List Opd}(h:compOp P o=some (.call f args)): ∃cargs argTypes,o.op= .call ⟨.value (.func f),cargs,argTypes⟩∧copdsT P argTypes.toList cargs.toList=some args:=by
 cases hop:o.op with
 |call c=>
   obtain⟨callee,cargs,argTypes⟩:=c
   cases callee with
   |value g=>
     cases g with
     |func g=>
       simp only[compOp,hop]at h
       obtain⟨ys,hys,h⟩:=Option.map_eq_some_iff.1 h
       cases h
       exact⟨cargs,argTypes,rfl,hys⟩
     |tmp t=>
       simp only[compOp,hop]at h
       split at h<;>cases h
     |const c=>
       simp only[compOp,hop]at h
       split at h<;>cases h
     |global g=>
       simp only[compOp,hop]at h
       split at h<;>cases h
   |invoke r m=>simp[compOp,hop]at h
   |builtin b=>
     exfalso
     cases b<;>simp only[compOp,hop,reduceCtorEq]at h
     all_goals
      repeat' (split at h)
     all_goals first|(cases h;done)
 |_=>
   exfalso
   simp only[compOp,hop,reduceCtorEq]at h
   all_goals first
    |(obtain⟨_,_,h⟩:=Option.map_eq_some_iff.1 h;cases h;done)
    | (repeat' (split at h)
       all_goals first|contradiction|(cases h;done)|(obtain⟨_,_,h⟩:=Option.map_eq_some_iff.1 h;cases h;done))
theorem comp_callv {o:Oper} {x:Opd} {args:List Opd}(h:compOp P o=some (.callv x args)): ∃g cargs argTypes,o.op= .call ⟨.value g,cargs,argTypes⟩∧copd g=some x∧copdsT P argTypes.toList cargs.toList=some args:=by
 cases hop:o.op with
 |call c=>
   obtain⟨callee,cargs,argTypes⟩:=c
   cases callee with
   |value g=>
     cases g with
     |func g=>
       simp only[compOp,hop]at h
       obtain⟨ys,hys,h⟩:=Option.map_eq_some_iff.1 h
       cases h
     |tmp t=>
       simp only[compOp,hop]at h
       split at h
       ·rename_i h1 h2;cases h;exact⟨_,cargs,argTypes,rfl,h1,h2⟩
       ·cases h
     |const c=>
       simp only[compOp,hop]at h
       split at h
       ·rename_i h1 h2;cases h;exact⟨_,cargs,argTypes,rfl,h1,h2⟩
       ·cases h
     |global g=>
       simp only[compOp,hop]at h
       split at h
       ·rename_i h1 h2;cases h;exact⟨_,cargs,argTypes,rfl,h1,h2⟩
       ·cases h
   |invoke r m=>simp[compOp,hop]at h
   |builtin b=>
     exfalso
     cases b<;>simp only[compOp,hop,reduceCtorEq]at h
     all_goals
      repeat' (split at h)
     all_goals first|(cases h;done)
 |_=>
   exfalso
   simp only[compOp,hop,reduceCtorEq]at h
   all_goals first
    |(obtain⟨_,_,h⟩:=Option.map_eq_some_iff.1 h;cases h;done)
    | (repeat' (split at h)
       all_goals first|contradiction|(cases h;done)|(obtain⟨_,_,h⟩:=Option.map_eq_some_iff.1 h;cases h;done))
theorem compOpM_call {m:Bool} {o:Oper} {f:FuncId} {args:List Opd}(h:compOpM P m o=some (.call f args)):compOp P o=some (.call f args):=by
 have h':=(compOpM_cases h).2
 clear h
 rcases h' with h|h
 rotate_left
 ·cases h
 unfold compOpN at h
 split at h
 ·obtain⟨a0,h0,h1⟩:=Option.map_eq_some_iff.1 h
  cases a0<;>simp only[AOp.mut,reduceCtorEq]at h1
  rw[h0,←h1]
 ·exact h
theorem compOpM_callv {m:Bool} {o:Oper} {x:Opd} {args:List Opd}(h:compOpM P m o=some (.callv x args)):compOp P o=some (.callv x args):=by
 have h':=(compOpM_cases h).2
 clear h
 rcases h' with h|h
 rotate_left
 ·cases h
 unfold compOpN at h
 split at h
 ·obtain⟨a0,h0,h1⟩:=Option.map_eq_some_iff.1 h
  cases a0<;>simp only[AOp.mut,reduceCtorEq]at h1
  rw[h0,←h1]
 ·exact h
theorem compOpM_not_defer {m:Bool} {o:Oper} {ao:AOp}(h:compOpM P m o=some ao): ∀c,o.op≠ .defer c:=by
 intro c hc
 have:=(compOpM_cases h).1
 simp[isDefer,hc]at this
theorem op1_sound(hK:K.glob=laidG P)(hst:StatOk K P T X)(hyl:YldOk K P T X) {F:Fence}(hF:Wide F) {n:Nat}(hS:SR K s w γ)(hE:ER s.length w γ e a)(hs:s≠[]) {o:Oper} {ao:AOper} {m:Bool}(h:compOpM P m o=some ao.op)
 {v:V} {s':Stk} (hv:op1 T X ao e s=some (v,s')) {next:Act→World→Prop} {Q:Exit→Act→World→Prop}
 (hnext: ∀u w' γ',VR s'.length w' γ' v u→SR K s' w' γ'→Ext s.length w γ w' γ'→s'.length=s.length→next (a.put o.dst u) w'):o.wpIn F n P a w next Q:=by
 have hfn:=hF.fn
 refine⟨fun f _=>hfn f,?_⟩
 rw[Oper.semAt_eq _ _ _ (compOpM_not_defer h)]
 have hd:F.depth.isSome=true→1≤n:=fun hx=>by rw[hF.depth]at hx;cases hx
 have entered: ∀(f:FuncId) (vs:List V) (us:Array Value),enter T X f vs (16*ao.dst.getD 0) s=some (v,s')→LR s.length w γ vs us.toList→
  ∀(r:Result Next),(∀w',(callFunc f us).run P w= .ok (.enter f us) w'→r= .ok (.enter f us) w')→o.uponIn F n P a next Q r:=by
  intro f vs us hen hl r hr
  obtain⟨h1,h2⟩:=hst f vs _ s v s' hen
  rw[hr w (h1 us w),Oper.uponIn_enter]
  refine⟨hd,(hF.calls (by simpa using h2 w γ us.toList hl hS)).mono ?_⟩
  rintro en w' ⟨u,γ',rfl,k1,k2,k3,k4⟩
  exact hnext u w' γ' k1 k2 k3 k4
 unfold op1 at hv
 dsimp only at hv
 split at hv
 · --by name
  rename_i f args hc
  have hao:ao.op= .call f args:=by
   cases hx:ao.op<;>rw[hx]at hc<;>simp[AOp.callOf]at hc
   obtain⟨rfl,rfl⟩:=hc;rfl
  rw[hao]at h
  obtain⟨cargs,argTypes,hop,hys⟩:=comp_call (compOpM_call h)
  have hl:=LR.strip' _ _ (hE.opdsT hys)
  refine entered f _ (cargs.map a.eval) hv (by simpa using hl) _ ?_
  intro w' hr
  simp only[execOp,hop,resolve,Act.eval,Deferred.ofValue,Sem.run_bind,Sem.run_pure,Result.andThen_ok,invoke]
  simpa [Act.eval]using hr
 · --a value
  rename_i x args hc
  have hao:ao.op= .callv x args:=by
   cases hx:ao.op<;>rw[hx]at hc<;>simp[AOp.callOf]at hc
   obtain⟨rfl,rfl⟩:=hc;rfl
  rw[hao]at h
  obtain⟨g,cargs,argTypes,hop,hg,hys⟩:=comp_callv (compOpM_callv h)
  have hl:=LR.strip' _ _ (hE.opdsT hys)
  have hx:=hE.opd hg
  generalize hxe:x.ev e=xv at hx hv
  cases xv with
  |fn f first cap=>
    simp only[enterV]at hv
    cases hx':a.eval g with
    |func fn us ws=>
      rw[hx']at hx
      cases hx with
      |fn _ _ _ _ _ h1 h2 k1 k2=>
        have l1:LR s.length w γ first us.toList:=⟨by simpa using h1,fun i v u hv hu=>k1 i v u hv (by simpa using hu)⟩
        have l2:LR s.length w γ cap ws.toList:=⟨by simpa using h2,fun i v u hv hu=>k2 i v u hv (by simpa using hu)⟩
        refine entered f _ (us ++cargs.map a.eval ++ws) hv (by simpa using (l1.append hl).append l2) _ ?_
        intro w' hr
        simp only[execOp,hop,resolve,hx',Deferred.ofValue,Sem.run_bind,Sem.run_pure,Result.andThen_ok,invoke]
        exact hr
    |_=>rw[hx']at hx;cases hx
  |yld d l=>
    cases hx':a.eval g with
    |func fn us ws=>
      rw[hx']at hx
      cases hx with
      |yld _ _ b hd' hb=>
        obtain⟨f,tmps,assign,body,h1,h2⟩:=hyl d l _ _ s v s' hv w γ b _ hb hl hS
        have hr:(execOp a.eval o).run P w= .ok (.round b f tmps assign body) w:=by
         simp only[execOp,hop,resolve,hx',Deferred.ofValue,Sem.run_bind,Sem.run_pure,Result.andThen_ok,invoke]
         have e1:(#[] ++cargs.map a.eval:Array Value)=(cargs.toList.map a.eval).toArray:=by apply Array.ext';simp
         rw[e1]
         exact h1
        rw[hr,Oper.uponIn_round]
        refine⟨hd,(roundIn_wide hF h2).mono ?_⟩
        rintro en w' ⟨u,γ',rfl,k1,k2,k3,k4⟩
        exact hnext u w' γ' k1 k2 k3 k4
    |_=>rw[hx']at hx;cases hx
  |_=>simp[enterV]at hv
 · --any other
  split at hv
  ·rename_i v1 f1 hop
   cases hv
   obtain⟨u,w',γ',hr,k1,k2,k3⟩:=op_soundM hK hS hE hs h hop
   have hlen:(seff s f1).length=s.length:=by
    cases f1 with
    |none=>rfl
    |some x=>obtain⟨d,l,y⟩:=x;simp[seff]
   rw[←hlen]at k1
   rcases hr with hr|⟨hr,rfl⟩
   ·rw[hr];exact hnext u w' γ' k1 k2 k3 hlen
   ·rw[hr];exact hnext undef w' γ' k1 k2 k3 hlen
  ·cases hv
structure St(K:KK)(N:Nat)(D:Nat)(w:World)(γ:G)(e:Env)(s:Stk)(a:Act)(w':World)(γ':G):Prop where
 size:a.tmps.size=N
 env:ER s.length w' γ' e a
 stk:SR K s w' γ'
 ext:Ext D w γ w' γ'
theorem ER.only {D:Nat} {w:World} {γ:G} {e:Env} {a:Act}(h:ER D w γ e a)(live:List Nat):ER D w γ (e.only live) a:=by
 intro t
 have: ∀(l:List Nat),(Env.get (l.map fun t=>(t,e.get t)) t)=e.get t∨(Env.get (l.map fun t=>(t,e.get t)) t)= .undef:=by
  intro l
  induction l with
  |nil=>exact .inr rfl
  |cons x r ih=>
    simp only[List.map_cons,Env.get]
    split
    ·rename_i hx;subst hx;exact .inl rfl
    ·exact ih
 rcases this live with h1|h1
 ·unfold Env.only;rw[h1];exact h t
 ·unfold Env.only;rw[h1];exact .undef _
theorem yielded_of {ops:Array Oper} {g slot:Nat}(h:(ops[g]?).bind (·.dst)=some slot) {D:Nat}(hE:ER D w γ e a) {b:Bool}(hb:e.get slot= .bool b):yielded ops a.tmps g=some b:=by
 have h1:=hE slot
 rw[hb]at h1
 have h2:=h1.bool_inv
 unfold yielded
 rw[h]
 simp only[Option.bind_some]
 cases ht:a.tmps[slot]? with
 |none=>simp[Array.getD_eq_getD_getElem?,ht,undef]at h2
 |some x=>simp[Array.getD_eq_getD_getElem?,ht]at h2;simp[h2]
theorem yielded_skip {ops:Array Oper} {g slot:Nat}(h:(ops[g]?).bind (·.dst)=some slot) {D:Nat}(hE:ER D w γ e a)(hb:e.get slot= .skip):yielded ops a.tmps g=none:=by
 have h1:=hE slot
 rw[hb]at h1
 have h2:a.tmps.getD slot undef=undef:=by
  generalize a.tmps.getD slot undef=u at h1
  cases h1;rfl
 unfold yielded
 rw[h]
 simp only[Option.bind_some]
 cases ht:a.tmps[slot]? with
 |none=>rfl
 |some x=>simp[Array.getD_eq_getD_getElem?,ht]at h2;simp[h2,undef]
theorem put_size(a:Act)(dst:Option Nat)(u:Value):(a.put dst u).tmps.size=a.tmps.size:=by
 cases dst<;>simp[Act.put]
theorem put_defers(a:Act)(dst:Option Nat)(u:Value):(a.put dst u).defers=a.defers:=by
 cases dst<;>simp[Act.put]
theorem ops_sound(hK:K.glob=laidG P)(hst:StatOk K P T X)(hyl:YldOk K P T X) {F:Fence}(hF:Wide F) {n N:Nat} {ops:Array Oper} {Q:Exit→Act→World→Prop}: ∀(l:List (Oper×Nat)) {als:List AOper} {muts:List Nat},compOpers P N muts ops l=some als→(∀x∈l,ops[x.2]? =some x.1)→
 ∀ {e:Env} {s:Stk} {a:Act} {w:World} {γ:G} {e':Env} {s':Stk},runOps T X als e s=some (e',s')→s≠[]→a.tmps.size=N→ER s.length w γ e a→SR K s w γ→
 (∀a' w' γ',St K N s.length w γ e' s' a' w' γ'→s'.length=s.length→a'.defers=a.defers→Q .normal a' w')→wpOpsIn F n P ops Q (l.map (·.2)) a w
 |[],als,muts,h,_,e,s,a,w,γ,e',s',hr,hs,hN,hE,hS,hQ=>by
   simp[compOpers]at h;subst h
   simp[runOps]at hr;obtain⟨rfl,rfl⟩:=hr
   exact hQ a w γ ⟨hN,hE,hS,Ext.refl _ _ _⟩ rfl rfl
 |(o,j)::l,als,muts,h,hm,e,s,a,w,γ,e',s',hr,hs,hN,hE,hS,hQ=>by
   have hj:ops[j]? =some o:=hm (o,j) (by simp)
   have hm': ∀x∈l,ops[x.2]? =some x.1:=fun x hx=>hm x (by simp[hx])
   simp only[compOpers]at h
   split at h
   ·rename_i op r h1 h2
    split at h
    ·rename_i hdst
     have hd: ∀d,o.dst=some d→d<a.tmps.size:=fun d hd=>by rw[hd]at hdst;simp at hdst;rw[hN];exact hdst
     simp only[List.map_cons,wpOpsIn,hj]
     have runs: ∀(g:Option (Nat×Bool)),∀ {v:V} {s1:Stk},op1 T X {dst:=o.dst,op,guard:=g} e s=some (v,s1)→runOps T X r (setDst o.dst v e) s1=some (e',s')→
      o.wpIn F n P a w (wpOpsIn F n P ops Q (l.map (·.2))) Q:=by
      intro g v s1 hv hrest
      refine op1_sound hK hst hyl hF hS hE hs (ao:= {dst:=o.dst,op,guard:=g}) h1 hv (fun u w1 γ1 k1 k2 k3 k4=> ?_)
      have hs1:s1≠[]:=fun e0=>by rw[e0]at k4;exact hs (List.eq_nil_of_length_eq_zero k4.symm)
      refine ops_sound hK hst hyl hF l h2 hm' hrest hs1 (by rw[put_size];exact hN) ?_ k2 (fun a' w' γ' st hl hd'=> ?_)
      ·rw[k4]at k1⊢
       exact(hE.ext k3).put k1 hd
      ·rw[k4]at hl st
       exact hQ a' w' γ' ⟨st.size,st.env,st.stk,k3.trans st.ext⟩ hl (by rw[hd',put_defers])
     have skips: ∀ {e1:Env},e1=setDst o.dst .skip e→runOps T X r e1 s=some (e',s')→wpOpsIn F n P ops Q (l.map (·.2)) (a.put o.dst undef) w:=by
      intro e1 he hrest
      subst he
      refine ops_sound hK hst hyl hF l h2 hm' hrest hs (by rw[put_size];exact hN) (hE.put .skip hd) hS (fun a' w' γ' st hl hd'=>hQ a' w' γ' st hl (by rw[hd',put_defers]))
     split at h
     ·rename_i hg
      cases h
      have hw:Region.wanted o (yielded ops a.tmps)=true:=by simp[Region.wanted,hg]
      simp only[hw,if_true]
      simp only[runOps]at hr
      split at hr
      ·rename_i v s1 hv
       exact runs _ hv hr
      ·cases hr
     ·rename_i g want hg
      split at h
      ·rename_i slot hslot
       cases h
       simp only[runOps]at hr
       split at hr
       ·rename_i b hb
        have hy:=yielded_of hslot hE hb
        split at hr
        ·rename_i hbw
         have hw:Region.wanted o (yielded ops a.tmps)=true:=by simp[Region.wanted,hg,hy,hbw]
         simp only[hw,if_true]
         split at hr
         ·rename_i v s1 hv
          exact runs _ hv hr
         ·cases hr
        ·rename_i hbw
         have hw:Region.wanted o (yielded ops a.tmps)=false:=by simp[Region.wanted,hg,hy,hbw]
         simp only[hw,Bool.false_eq_true,if_false]
         exact⟨fun f _=>hF.fn f,skips rfl hr⟩
       ·rename_i hb
        have hy:=yielded_skip hslot hE hb
        have hw:Region.wanted o (yielded ops a.tmps)=false:=by simp[Region.wanted,hg,hy]
        simp only[hw,Bool.false_eq_true,if_false]
        exact⟨fun f _=>hF.fn f,skips rfl hr⟩
       ·cases hr
      ·cases h
    ·cases h
   ·cases h
theorem zipIdx_mem {α:Type}(xs:Array α): ∀x∈xs.toList.zipIdx,xs[x.2]? =some x.1:=by
 intro x hx
 have:=List.mem_zipIdx_iff_getElem?.1 hx
 simpa using this
theorem zipIdx_range {α:Type}(xs:Array α):xs.toList.zipIdx.map (·.2)=List.range xs.size:=by
 simp[List.zipIdx_map_snd,List.range_eq_range']
theorem region_sound(hK:K.glob=laidG P)(hst:StatOk K P T X)(hyl:YldOk K P T X) {F:Fence}(hF:Wide F) {n N id:Nat} {ops:Array Oper} {Q:Exit→Act→World→Prop} {als:List AOper} {live:List Nat} {muts:List Nat}(h:compOpers P N muts ops ops.toList.zipIdx=some als)
 {e':Env} {s':Stk} (hr:runOps T X als e s=some (e',s')) (hs:s≠[]) (hN:a.tmps.size=N) (hE:ER s.length w γ e a) (hS:SR K s w γ)
 (hQ: ∀a' w' γ',St K N s.length w γ (e'.only live) s' a' w' γ'→s'.length=s.length→a'.defers=a.defers→Q .normal a' w'):(Code.region id ops false).wpIn F n P Q a w:=by
 refine wpIn_region ?_
 rw[←zipIdx_range]
 refine ops_sound hK hst hyl hF _ h (zipIdx_mem ops) hr hs hN hE hS (fun a' w' γ' st hl hd=>hQ a' w' γ' ⟨st.size,?_,st.stk,st.ext⟩ hl hd)
 exact st.env.only live
end
end Go.Ab

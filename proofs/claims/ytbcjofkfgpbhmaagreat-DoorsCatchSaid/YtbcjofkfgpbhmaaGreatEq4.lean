/-
  Doors, the reference: movesOf.
-/
import Derived.Test.YtbcjofkfgpbhmaaGreatEq3
import Derived.Test.YtbcjofkfgpbhmaaGreatEq1
set_option linter.unusedSimpArgs false
set_option linter.unusedVariables false
namespace Go.Proofs.YtbcjofkfgpbhmaaGreat
open Go.Ab
theorem moves_len5: ∀(l:List (List Int)),(∀w∈l,w.length≤5)→(movesS l).length≤5^l.length
 |[],_=>by simp[movesS]
 |w::l,h=>by
   have ih:=moves_len5 l fun x hx=>h x (by simp[hx])
   have hw:=h w (by simp)
   simp only[movesS,List.length_cons]
   have:=flat_len (g:=fun x=>(movesS l).map (x:: ·)) (k:=5^l.length) (l:=w) (fun x _=>by simpa using ih)
   have h2:w.length*5^l.length≤5*5^l.length:=Nat.mul_le_mul_right _ hw
   rw[Nat.pow_succ,Nat.mul_comm (5^l.length) 5]
   omega
def waysL(t:DTrap):List (List Int):=(posL t).map (waysS t.chambers.toNat t.gates)
theorem waysL_len(t:DTrap):(waysL t).length=t.groups.length:=by simp[waysL,posL]
def restM(t:DTrap)(f:List Int):List (List Int):=(movesS ((waysL t).drop f.length)).map (f ++ ·)
theorem restM_len {t:DTrap}(h:DoorOk t)(f:List Int):(restM t f).length≤125:=by
 have h1:=moves_len5 ((waysL t).drop f.length) fun w hw=>by
  obtain⟨p,_,rfl⟩:=List.mem_map.1 (List.mem_of_mem_drop hw)
  have:=waysS_len (n:=t.chambers.toNat) (gs:=t.gates) (p:=p)
  have:=h.ch
  omega
 have h2:((waysL t).drop f.length).length≤3:=by rw[List.length_drop,waysL_len];have:=h.ol;omega
 have h3:5^((waysL t).drop f.length).length≤5^3:=Nat.pow_le_pow_right (by decide) h2
 unfold restM
 rw[List.length_map]
 omega
theorem restM_cons {t:DTrap} {f:List Int}(hf:f.length<t.groups.length):(waysS t.chambers.toNat t.gates ((posL t).getD f.length 0)).foldl (fun L x=>L ++restM t (f ++[x])) []=restM t f:=by
 rw[foldl_flat,List.nil_append]
 unfold restM
 have hl:f.length<(waysL t).length:=by rw[waysL_len];exact hf
 have hpl:f.length<(posL t).length:=by simpa [posL]using hf
 rw[List.drop_eq_getElem_cons hl]
 have hg:(waysL t)[f.length]=waysS t.chambers.toNat t.gates ((posL t).getD f.length 0):=by
  simp[waysL,List.getD,hpl]
 rw[hg,movesS,List.map_flatMap]
 congr 1
 funext x
 simp only[List.length_append,List.length_cons,List.length_nil,List.map_map]
 congr 1
 funext m
 simp
set_option maxHeartbeats 8000000 in
theorem e_movesOf(t:DTrap)(h:DoorOk t): ∀(r:Nat) (f:List Int),f.length+r=t.groups.length→ ∀(lab:Nat) (s:Stk),den T 84 [.agg (dV t), .sl .no 1 (es cInt f)] lab s=some (.sl .no 1 (es cInts (restM t f)),s)
 |0,f,hf=>fun lab s=>by
   have e:restM t f=[f]:=by
    unfold restM
    rw[List.drop_eq_nil_of_le (by rw[waysL_len];omega)]
    simp[movesS]
   have hf2:(f.length:Int)=t.groups.length:=by omega
   rw[e]
   rw[den_fn t84 _ _ _ rfl]
   simp only[b84]
   simp (maxSteps:=1000000) (disch:=first|omega|assumption|decide +kernel|(simp;done)|(simp;omega)|fail) [hf2]<;>rfl
 |r+1,f,hf=>fun lab s=>by
   have hol:=h.ol
   have hfl:f.length<t.groups.length:=by omega
   have hfl2:(f.length:Int)<t.groups.length:=by omega
   have hne: ¬(f.length:Int)=t.groups.length:=by omega
   have hI:=fun(x:Int) lab s=>e_movesOf t h r (f ++[x]) (by simp;omega) lab s
   have hw:=fun p lab s=>e_WaysOf t h p lab s
   have hpos:(posL t).getD f.length 0=t.groups[f.length].pos:=by simp[posL,List.getD,hfl]
   have hwl:=waysS_len (n:=t.chambers.toNat) (gs:=t.gates) (p:=t.groups[f.length].pos)
   have hch:=h.ch
   have hcons:=restM_cons hfl
   rw[hpos]at hcons
   have hw2:=hw t.groups[f.length].pos
   generalize hG:t.groups[f.length]=G at*
   generalize waysS t.chambers.toNat t.gates G.pos=W at*
   have key:=loop_fold (T:=Go.Proofs.YtbcjofkfgpbhmaaGreat.T) (live:=[1,2,5,6,7]) (keep:=[32,81,240,384]) (b:=d84l0) W (fun k (a:List (List Int))=>a.length≤125*k) (fun L x=>L ++restM t (f ++[x]))
    (fun k a=>[(1, .sl .no 1 (es cInt f)),(2, .ptr s.length 32 0),(5, .sl (.own s.length 81) 1 (es cInts a)),(6, .sl .no 1 (es cInt W)),(7,i64 (k:Nat))]) (fun _ a=>[(32, .cell (dV t)),(81, .tok a.length)]::s)
    (fun a=>(.exit 0,[(1, .sl .no 1 (es cInt f)),(2, .ptr s.length 32 0),(5, .sl (.own s.length 81) 1 (es cInts a)),(6, .sl .no 1 (es cInt W)),(7,i64 W.length),(28, .bool false)],[(32, .cell (dV t)),(81, .tok a.length)]::s))
    (by simp) ?_ ?_ ?_ [] (by simp) [(5, .sl (.own s.length 81) 1 []),(1, .sl .no 1 (es cInt f)),(2, .ptr s.length 32 0),(5, .sl .full 1 []),(6, .sl .no 1 (es cInt W)),(7,i64 0)] ([(32, .cell (dV t)),(81, .tok 0)]::s) (by simp) (by simp)
   ·rw[hcons]at key
    change Run T b84l0 _ _=_ at key
    generalize restM t f=R at*
    rw[den_fn t84 _ _ _ rfl]
    simp only[b84]
    simp (maxSteps:=1000000) (disch:=first|omega|assumption|decide +kernel|(simp;done)|(simp;omega)|fail) [run_drawnK,orSlow_none,hne,hfl,hfl2,hG,hw2,key]
   ·intro k a hk hi
    have hk2:(k:Int)<W.length:=by omega
    have hQ:=restM_len h (f ++[W[k]])
    have hI2:=hI W[k]
    generalize hx:W[k]=x at*
    generalize restM t (f ++[x])=Q at*
    have b1:(a.length+Q.length)*24≤140737488355328:=by omega
    have b2:a.length+Q.length<140737488355328:=by omega
    have e0:es cInt f ++[[i64 x]]=es cInt (f ++[x]):=by simp[es]
    by_cases h0:f=[]
    ·simp (maxSteps:=1000000) (disch:=first|omega|assumption|decide +kernel|(simp;done)|(simp;omega)|fail) [run_drawnK,orSlow_none,hk,hk2,hx,hI2,appK_full_e h0,appD_full_e h0,appD_full1,appK_own,b1,b2,e0,wk k (by omega)]
    ·simp (maxSteps:=1000000) (disch:=first|omega|assumption|decide +kernel|(simp;done)|(simp;omega)|fail) [run_drawnK,orSlow_none,hk,hk2,hx,hI2,h0,appD_full,appD_own1,appK_own1,appK_own,b1,b2,e0,wk k (by omega)]
   ·intro k a hk hi
    have hQ:=restM_len h (f ++[W[k]])
    simp only[List.length_append];omega
   ·intro a hi
    simp
end Go.Proofs.YtbcjofkfgpbhmaaGreat

/-
  Doors, the reference: a number for each state.
-/
namespace Go.Proofs.YtbcjofkfgpbhmaaGreat
open Go.Ab
theorem fold2_inj: ∀(l l':List Int) (n n':Int),l.length=l'.length→(∀x∈l,0≤x∧x<2)→(∀x∈l',0≤x∧x<2)→l.foldl (fun n x=>n*2+x) n=l'.foldl (fun n x=>n*2+x) n'→n=n'∧l=l'
 |[],[],n,n',_,_,_,h=>⟨h,rfl⟩
 |x::l,y::l',n,n',hl,h1,h2,h=>by
   obtain⟨e,e2⟩:=fold2_inj l l' _ _ (by simpa using hl) (fun z hz=>h1 z (by simp[hz])) (fun z hz=>h2 z (by simp[hz])) h
   have e:n*2+x=n'*2+y:=e
   have a:=h1 x (by simp)
   have b:=h2 y (by simp)
   exact⟨by omega,by rw[e2,show x=y by omega]⟩
theorem fold4_inj: ∀(l l':List Int) (n n':Int),l.length=l'.length→(∀x∈l,0≤x∧x<4)→(∀x∈l',0≤x∧x<4)→l.foldl (fun n x=>n*4+x) n=l'.foldl (fun n x=>n*4+x) n'→n=n'∧l=l'
 |[],[],n,n',_,_,_,h=>⟨h,rfl⟩
 |x::l,y::l',n,n',hl,h1,h2,h=>by
   obtain⟨e,e2⟩:=fold4_inj l l' _ _ (by simpa using hl) (fun z hz=>h1 z (by simp[hz])) (fun z hz=>h2 z (by simp[hz])) h
   have e:n*4+x=n'*4+y:=e
   have a:=h1 x (by simp)
   have b:=h2 y (by simp)
   exact⟨by omega,by rw[e2,show x=y by omega]⟩
def opD(g:DGate):Int:=if g.op=true then 1 else 0
def codeG(t:DTrap):Int:=(t.gates.map opD).foldl (fun n x=>n*2+x) t.turns
def codeT(t:DTrap):Int:=(posL t).foldl (fun n x=>n*4+x) (codeG t)
structure SameS(t t':DTrap):Prop where
 ch:t'.chambers=t.chambers
 ha:t'.hands=t.hands
 ga:t'.gates.map (fun g=>(g.a,g.b))=t.gates.map fun g=>(g.a,g.b)
 fi:fishL t'=fishL t
theorem SameS.rfl'(t:DTrap):SameS t t:=⟨rfl,rfl,rfl,rfl⟩
theorem SameS.trans {a b c:DTrap}(h:SameS a b)(h':SameS b c):SameS a c:=⟨h'.ch.trans h.ch,h'.ha.trans h.ha,h'.ga.trans h.ga,h'.fi.trans h.fi⟩
theorem SameS.symm {a b:DTrap}(h:SameS a b):SameS b a:=⟨h.ch.symm,h.ha.symm,h.ga.symm,h.fi.symm⟩
theorem gates_eq: ∀ {l l':List DGate},l.map (fun g=>(g.a,g.b))=l'.map (fun g=>(g.a,g.b))→l.map opD=l'.map opD→l=l'
 |[],[],_,_=>rfl
 |[],_::_,h,_=>by simp at h
 |_::_,[],h,_=>by simp at h
 |⟨a,b,o⟩::l,⟨a',b',o'⟩::l',h,h2=>by
   simp only[List.map_cons,List.cons.injEq,Prod.mk.injEq,opD]at h h2
   obtain⟨⟨rfl,rfl⟩,h⟩:=h
   obtain⟨h3,h2⟩:=h2
   have:o=o':=by cases o<;>cases o'<;>simp_all
   rw[this,gates_eq h h2]
theorem groups_eq: ∀ {l l':List DGroup},l.map (·.fish)=l'.map (·.fish)→l.map (·.pos)=l'.map (·.pos)→l=l'
 |[],[],_,_=>rfl
 |[],_::_,h,_=>by simp at h
 |_::_,[],h,_=>by simp at h
 |⟨a,b⟩::l,⟨a',b'⟩::l',h,h2=>by
   simp only[List.map_cons,List.cons.injEq]at h h2
   obtain⟨rfl,h⟩:=h
   obtain⟨rfl,h2⟩:=h2
   rw[groups_eq h h2]
theorem code_inj {t t':DTrap}(hs:SameS t t')(h:DoorOk t)(h':DoorOk t')(e:codeT t=codeT t'):t=t':=by
 have hgl:t'.gates.length=t.gates.length:=by simpa using congrArg List.length hs.ga
 have hfl:t'.groups.length=t.groups.length:=by simpa [fishL]using congrArg List.length hs.fi
 have hp: ∀ {t:DTrap},DoorOk t→ ∀x∈posL t,0≤x∧x<4:=fun {t} h x hx=>by
  obtain⟨g,hg,rfl⟩:=List.mem_map.1 hx
  have:=(h.groups g hg).1
  have:=h.ch
  omega
 have ho: ∀(t:DTrap),∀x∈t.gates.map opD,0≤x∧x<2:=fun t x hx=>by
  obtain⟨g,hg,rfl⟩:=List.mem_map.1 hx
  unfold opD
  split<;>omega
 obtain⟨e1,e2⟩:=fold4_inj _ _ _ _ (by simp[posL,hfl]) (hp h) (hp h') e
 obtain⟨e3,e4⟩:=fold2_inj _ _ _ _ (by simp[hgl]) (ho t) (ho t') e1
 obtain⟨ch,tu,ha,ga,gr⟩:=t
 obtain⟨ch',tu',ha',ga',gr'⟩:=t'
 simp only at e3 e4
 have h1:=hs.ch
 have h2:=hs.ha
 have h3:ga'=ga:=gates_eq hs.ga e4.symm
 have h4:gr'=gr:=groups_eq hs.fi e2.symm
 simp only at h1 h2
 subst h1 h2 h3 h4 e3
 rfl
theorem pow2_le {k:Nat}(h:k≤5):2^k≤32:=Nat.pow_le_pow_right (n:=2) (by decide) h
theorem pow4_le {k:Nat}(h:k≤3):4^k≤64:=Nat.pow_le_pow_right (n:=4) (by decide) h
set_option maxHeartbeats 4000000 in
theorem e_code(t:DTrap)(h:DoorOk t)(lab s):den T 47 [.agg (dV t)] lab s=some (i64 (codeT t),s):=by
 have hgl:=h.gl
 have hol:=h.ol
 have htu:=h.tu
 have key:=loop_fold (T:=Go.Proofs.YtbcjofkfgpbhmaaGreat.T) (live:=[1,3,4]) (keep:=[16]) (b:=d47l0) t.gates (fun k (n:Int)=>0≤n∧n+1≤8*((2^k:Nat):Int)) (fun n g=>n*2+opD g)
  (fun k n=>[(1, .ptr s.length 16 0),(3,i64 n),(4,i64 (k:Nat))]) (fun _ _=>[(16, .cell (dV t))]::s)
  (fun n=>(.exit 0,[(1, .ptr s.length 16 0),(3,i64 n),(4,i64 t.gates.length),(12, .bool false)],[(16, .cell (dV t))]::s))
  (by simp) ?_ ?_ ?_ t.turns (by simp;omega) [(1, .ptr s.length 16 0),(3,i64 t.turns),(4,i64 0)] ([(16, .cell (dV t))]::s) (by simp) (by simp)
 rotate_left
 ·intro k n hk hi
  have hk2:(k:Int)<t.gates.length:=by omega
  have hp:=pow2_le (k:=k) (by omega)
  have w1:IntKind.i64.wrap (n*2)=n*2:=wi _ (by omega) (by omega)
  have w2:IntKind.i64.wrap (n*2+1)=n*2+1:=wi _ (by omega) (by omega)
  unfold opD
  generalize hG:t.gates[k]=G at*
  cases ho:G.op
  ·simp (maxSteps:=1000000) (disch:=first|omega|assumption|decide +kernel|(simp;done)|(simp;omega)|fail) [hk,hk2,hG,ho,w1,wk k (by omega)]
  ·simp (maxSteps:=1000000) (disch:=first|omega|assumption|decide +kernel|(simp;done)|(simp;omega)|fail) [hk,hk2,hG,ho,w1,w2,wk k (by omega)]
 ·intro k n hk hi
  have:(2:Nat)^(k+1)=2*2^k:=by rw[Nat.pow_succ,Nat.mul_comm]
  rw[this]
  unfold opD
  split<;>omega
 ·intro n hi
  simp
 have e1:t.gates.foldl (fun n g=>n*2+opD g) t.turns=codeG t:=by unfold codeG;rw[List.foldl_map]
 rw[e1]at key
 have hcg:0≤codeG t∧codeG t+1≤256:=by
  have: ∀(l:List DGate) (n:Int) (k:Nat),0≤n∧n+1≤8*((2^k:Nat):Int)→0≤l.foldl (fun n g=>n*2+opD g) n∧l.foldl (fun n g=>n*2+opD g) n+1≤8*((2^(k+l.length):Nat):Int):=by
   intro l
   induction l with
   |nil=>intro n k hn;exact hn
   |cons g l ih=>
     intro n k hn
     have e:(2:Nat)^(k+1)=2*2^k:=by rw[Nat.pow_succ,Nat.mul_comm]
     have:=ih (n*2+opD g) (k+1) (by rw[e];unfold opD;split<;>omega)
     rw[List.foldl_cons,List.length_cons,show k+(l.length+1)=k+1+l.length by omega]
     exact this
  have h1:=this t.gates t.turns 0 (by simp;omega)
  rw[e1]at h1
  have h2:=pow2_le (k:=0+t.gates.length) (by omega)
  omega
 have key2:=loop_fold (T:=Go.Proofs.YtbcjofkfgpbhmaaGreat.T) (live:=[1,3,5]) (keep:=[16]) (b:=d47l1) t.groups (fun k (n:Int)=>0≤n∧n+1≤256*((4^k:Nat):Int)) (fun n g=>n*4+g.pos)
  (fun k n=>[(1, .ptr s.length 16 0),(3,i64 n),(5,i64 (k:Nat))]) (fun _ _=>[(16, .cell (dV t))]::s)
  (fun n=>(.exit 2,[(1, .ptr s.length 16 0),(3,i64 n),(5,i64 t.groups.length),(29, .bool false)],[(16, .cell (dV t))]::s))
  (by simp) ?_ ?_ ?_ (codeG t) (by simp;omega) [(1, .ptr s.length 16 0),(3,i64 (codeG t)),(5,i64 0)] ([(16, .cell (dV t))]::s) (by simp) (by simp)
 rotate_left
 ·intro k n hk hi
  have hk2:(k:Int)<t.groups.length:=by omega
  have hp:=pow4_le (k:=k) (by omega)
  have hg:=(h.groups _ (List.getElem_mem hk)).1
  have hch:=h.ch
  generalize hG:t.groups[k]=G at*
  have w1:IntKind.i64.wrap (n*4)=n*4:=wi _ (by omega) (by omega)
  have w2:IntKind.i64.wrap (n*4+G.pos)=n*4+G.pos:=wi _ (by omega) (by omega)
  simp (maxSteps:=1000000) (disch:=first|omega|assumption|decide +kernel|(simp;done)|(simp;omega)|fail) [hk,hk2,hG,w1,w2,wk k (by omega)]
 ·intro k n hk hi
  have:(4:Nat)^(k+1)=4*4^k:=by rw[Nat.pow_succ,Nat.mul_comm]
  rw[this]
  have hg:=(h.groups _ (List.getElem_mem hk)).1
  have hch:=h.ch
  omega
 ·intro n hi
  simp
 have e2:t.groups.foldl (fun n g=>n*4+g.pos) (codeG t)=codeT t:=by unfold codeT posL;rw[List.foldl_map]
 rw[e2]at key2
 change Run T b47l0 _ _=_ at key
 change Run T b47l1 _ _=_ at key2
 generalize codeT t=c2 at*
 generalize codeG t=c1 at*
 rw[den_fn t47 _ _ _ rfl]
 simp only[b47]
 simp (maxSteps:=1000000) (disch:=first|omega|assumption|decide +kernel|(simp;done)|(simp;omega)|fail) [key,key2]
end Go.Proofs.YtbcjofkfgpbhmaaGreat

/-
  Doors, the reference: least, if worth is what it should be.
-/
namespace Go.Proofs.YtbcjofkfgpbhmaaGreat
open Go.Ab
open Classical in
noncomputable def wCode(t0:DTrap):List Int→Int
 |[c]=>if h: ∃t,SameS t0 t∧DoorOk t∧codeT t=c then worthT h.choose h.choose.turns.toNat else 0
 |_=>0
theorem wCode_eq {t0 t:DTrap}(hs:SameS t0 t)(h:DoorOk t):wCode t0 [codeT t]=worthT t t.turns.toNat:=by
 have hex: ∃t',SameS t0 t'∧DoorOk t'∧codeT t'=codeT t:=⟨t,hs,h,rfl⟩
 simp only[wCode]
 rw[dif_pos hex]
 obtain⟨h1,h2,h3⟩:=hex.choose_spec
 have:hex.choose=t:=code_inj (h1.symm.trans hs) h2 h h3
 rw[this]
abbrev MemR(t0:DTrap):=Mem (wCode t0)
structure MapD(dm lm L:Nat)(S:List (List Int×Int)→Stk):Prop where
 len: ∀K,(S K).length=L
 ltm:dm<L
 mem: ∀K,sget (S K) dm lm=some (.mp none K)
 put: ∀K K',sput (S K) dm lm (.mp none K')=S K'
theorem MapD.push {dm lm L S}(G:MapD dm lm L S)(X:Stk):MapD dm lm (X.length+L) (fun K=>X ++S K) where
 len:=fun K=>by rw[List.length_append,G.len]
 ltm:=by have:=G.ltm;omega
 mem:=fun K=>by rw[sget_append _ _ _ _ (by rw[G.len];exact G.ltm),G.mem]
 put:=fun K K'=>by rw[sput_append _ _ _ _ _ (by rw[G.len];exact G.ltm),G.put]
def WorthD(t0:DTrap)(k:Nat)(f:DTrap→MemR t0→MemR t0):Prop:= ∀ {dm lm L:Nat} {S:List (List Int×Int)→Stk},MapD dm lm L S→
 ∀(t:DTrap),SameS t0 t→DoorOk t→t.turns=(k:Nat)→ ∀(K:MemR t0) (lab:Nat),den T 45 [.agg (dV t), .mp (.ptr dm lm 0)] lab (S K.1)=some (i64 (worthT t k),S (f t K).1)
def leastK(t0:DTrap)(f:DTrap→MemR t0→MemR t0)(t:DTrap)(K:MemR t0):MemR t0:=(movesS (waysL t)).foldl (fun K m=>f (movedT t m) K) K
def stepL(w:List Int→Int)(l:List (List Int))(a:Nat×Int)(k:Nat):Nat×Int:=if w (l.getD (k+1) [])<a.2 then(k+1,w (l.getD (k+1) []))else a
theorem stepL_inv(w:List Int→Int)(l:List (List Int)): ∀n,((List.range n).foldl (stepL w l) (0,w (l.getD 0 []))).1≤n∧((List.range n).foldl (stepL w l) (0,w (l.getD 0 []))).2=w (l.getD ((List.range n).foldl (stepL w l) (0,w (l.getD 0 []))).1 [])∧
 (∀i,i≤n→((List.range n).foldl (stepL w l) (0,w (l.getD 0 []))).2≤w (l.getD i []))∧ ∀i,i<((List.range n).foldl (stepL w l) (0,w (l.getD 0 []))).1→((List.range n).foldl (stepL w l) (0,w (l.getD 0 []))).2<w (l.getD i [])
 |0=>by
   refine⟨Nat.le_refl _,rfl,fun i hi=> ?_,fun i hi=> ?_⟩
   ·obtain rfl:i=0:=by omega
    exact Int.le_refl _
   ·exact absurd hi (by simp)
 |n+1=>by
   obtain⟨h1,h2,h3,h4⟩:=stepL_inv w l n
   rw[List.range_succ,List.foldl_append]
   simp only[List.foldl_cons,List.foldl_nil]
   generalize (List.range n).foldl (stepL w l) (0,w (l.getD 0 []))=a at*
   unfold stepL
   by_cases hc:w (l.getD (n+1) [])<a.2
   ·rw[if_pos hc]
    refine⟨Nat.le_refl _,rfl,fun i hi=> ?_,fun i hi=> ?_⟩
    ·by_cases e:i=n+1
     ·rw[e];exact Int.le_refl _
     ·have:=h3 i (by omega);simp only;omega
    ·have:=h3 i (by simp only at hi;omega);simp only;omega
   ·rw[if_neg hc]
    refine⟨by omega,h2,fun i hi=> ?_,h4⟩
    by_cases e:i=n+1
    ·rw[e];omega
    ·exact h3 i (by omega)
theorem moved_same {t0 t:DTrap}(hs:SameS t0 t)(m:List Int):SameS t0 (movedT t m):=⟨hs.ch,hs.ha,hs.ga,(fishL_moved t m).trans hs.fi⟩
theorem changed_same {t0 t:DTrap}(hs:SameS t0 t)(c:List Int):SameS t0 (changedT t c):=⟨hs.ch,hs.ha,by
 rw[←hs.ga]
 apply List.ext_getElem?
 intro i
 simp only[changedT,List.getElem?_map,flipS_get]
 cases t.gates[i]? with
 |none=>rfl
 |some g=>
   simp only[Option.map_some]
   split<;>rfl,hs.fi⟩
def leastV(t:DTrap)(k:Nat):Int:=minL ((movesS (waysL t)).map fun m=>worthT (movedT t m) k)
def firstV(t:DTrap)(k:Nat):List Int:=((movesS (waysL t)).find? fun m=>decide (worthT (movedT t m) k=leastV t k)).getD []
theorem least_fold(t:DTrap)(k:Nat)(hne:movesS (waysL t)≠[]): ∃b,(List.range ((movesS (waysL t)).length-1)).foldl (stepL (fun m=>worthT (movedT t m) k) (movesS (waysL t))) (0,worthT (movedT t ((movesS (waysL t)).getD 0 [])) k)=(b,leastV t k)∧b<(movesS (waysL t)).length∧(movesS (waysL t)).getD b []=firstV t k:=by
 have hl:=List.length_pos_iff.2 hne
 obtain⟨h1,h2,h3,h4⟩:=stepL_inv (fun m=>worthT (movedT t m) k) (movesS (waysL t)) ((movesS (waysL t)).length-1)
 generalize hL:movesS (waysL t)=l at*
 generalize (List.range (l.length-1)).foldl (stepL (fun m=>worthT (movedT t m) k) l) (0,worthT (movedT t (l.getD 0 [])) k)=a at*
 obtain⟨b,v⟩:=a
 simp only at h1 h2 h3 h4
 have hb:b<l.length:=by omega
 have hgb:l.getD b []=l[b]:=by simp[List.getD,hb]
 have hv:v=leastV t k:=by
  unfold leastV
  rw[hL]
  refine Int.le_antisymm (le_minL (by simpa using hne) fun x hx=> ?_) ?_
  ·obtain⟨m,hm,rfl⟩:=List.mem_map.1 hx
   obtain⟨i,hi,rfl⟩:=List.getElem_of_mem hm
   have:=h3 i (by omega)
   have hg:l.getD i []=l[i]:=by simp[List.getD,hi]
   rw[hg]at this
   exact this
  ·rw[h2,hgb]
   exact minL_le (List.mem_map.2 ⟨_,List.getElem_mem hb,rfl⟩)
 refine⟨b,by rw[hv],hb,?_⟩
 unfold firstV
 rw[hL,hgb]
 have hf:l.find? (fun m=>decide (worthT (movedT t m) k=leastV t k))=some l[b]:=by
  rw[List.find?_eq_some_iff_getElem]
  refine⟨by rw[decide_eq_true_eq,←hv,h2,hgb],b,hb,rfl,fun j hj=> ?_⟩
  have:=h4 j hj
  have hg:l.getD j []=l[j]:=by simp[List.getD,show j<l.length by omega]
  rw[hg,hv]at this
  simp only[Bool.not_eq_true',decide_eq_false_iff_not]
  omega
 rw[hf];rfl
end Go.Proofs.YtbcjofkfgpbhmaaGreat

/-
  Doors, the reference: least and worth.
-/
namespace Go.Proofs.YtbcjofkfgpbhmaaGreat
open Go.Ab
theorem foldl_pairI {σ τ:Type}(f:σ→Nat→σ)(g:τ→Nat→τ): ∀(l:List Nat) (a:σ) (b:τ),l.foldl (fun(p:σ×τ) x=>(f p.1 x,g p.2 x)) (a,b)=(l.foldl f a,l.foldl g b)
 |[],_,_=>rfl
 |x::l,a,b=>by simp only[List.foldl_cons,foldl_pairI f g l]
theorem foldl_tail {σ:Type}(g:σ→List Int→σ)(l:List (List Int))(hne:l≠[])(K:σ):(List.range (l.length-1)).foldl (fun K k=>g K (l.getD (k+1) [])) (g K (l.getD 0 []))=l.foldl g K:=by
 cases l with
 |nil=>exact absurd rfl hne
 |cons x r=>
   simp only[List.length_cons,Nat.add_sub_cancel,List.getD_cons_zero,List.getD_cons_succ,List.foldl_cons]
   generalize g K x=K1
   induction r generalizing K1 with
   |nil=>rfl
   |cons y r ih=>
     rw[List.length_cons,List.range_succ_eq_map,List.foldl_cons,List.foldl_map]
     simp only[List.getD_cons_zero,List.getD_cons_succ,List.foldl_cons]
     exact ih (by simp) _
theorem worthT_range {t:DTrap}(h:DoorOk t)(k:Nat):0≤worthT t k∧worthT t k≤297:=by
 have:=wO_range h k (gN t) (nAt t)
 rw[wO_start h]at this
 exact this
set_option maxHeartbeats 8000000 in
theorem e_least {t0:DTrap} {k:Nat} {f}(hf:WorthD t0 k f) {dm lm L:Nat} {S:List (List Int×Int)→Stk}(G:MapD dm lm L S)(t:DTrap)(hs:SameS t0 t)(h:DoorOk t)(hT:t.turns=((k+1:Nat):Int))(K:MemR t0)(lab):
 den T 66 [.agg (dV t), .mp (.ptr dm lm 0)] lab (S K.1)=some (.tup [i64 (leastV t k), .sl .no 1 (es cInt (firstV t k))],S (leastK t0 f t K).1):=by
 have hL:=G.len
 have hd:=G.ltm
 have e1: ¬dm=L:=by omega
 have htu:=h.tu
 have hol:=h.ol
 have hshort:=doorB_short (doorB_iff.2 h)
 have hm0:=fun lab s=>e_movesOf t h t.groups.length [] (by simp) lab s
 have hM:restM t []=movesS (waysL t):=by unfold restM;simp
 rw[hM]at hm0
 simp only[es_nil]at hm0
 have hne:movesS (waysL t)≠[]:=moves_ne _ _ _
 have hlen:(movesS (waysL t)).length≤125:=by rw[←hM];exact restM_len h []
 have hl0:=List.length_pos_iff.2 hne
 have hmem: ∀i,(hi:i<(movesS (waysL t)).length)→DoorOk (movedT t (movesS (waysL t))[i])∧SameS t0 (movedT t (movesS (waysL t))[i])∧(movedT t (movesS (waysL t))[i]).turns=(k:Nat)∧(movesS (waysL t))[i].length=t.groups.length:=fun i hi=>by
  have hx:=List.getElem_mem hi
  refine⟨moved_ok h (by omega) hx,moved_same hs _,by simp only[movedT];omega,?_⟩
  have:=(mem_moves.1 hx).1
  simpa [posL]using this
 obtain⟨b,hb1,hb2,hb3⟩:=least_fold t k hne
 have hk1:=foldl_tail (fun(K:MemR t0) m=>f (movedT t m) K) (movesS (waysL t)) hne K
 have hmv:=fun i hi lab s=>e_Moved t hshort ⟨by omega,htu.2⟩ (movesS (waysL t))[i] (hmem i hi).2.2.2 lab s
 have hwt:=fun i (hi:i<(movesS (waysL t)).length) (K:MemR t0) lab=>hf (G.push [[(32, .cell (dV t))]]) (movedT t (movesS (waysL t))[i]) (hmem i hi).2.1 (hmem i hi).1 (hmem i hi).2.2.1 K lab
 have hwr:=fun i (hi:i<(movesS (waysL t)).length)=>worthT_range (hmem i hi).1 k
 unfold leastK
 rw[←hk1]
 clear hmem hf
 generalize hML:movesS (waysL t)=ML at*
 simp only[List.cons_append,List.nil_append]at hwt
 have key:=loop_fold (T:=Go.Proofs.YtbcjofkfgpbhmaaGreat.T) (live:=[1,2,6,7,8,9]) (keep:=[32,192,272,304]) (b:=d66l0) (List.range (ML.length-1)) (fun j (a:(Nat×Int)×MemR t0)=>a.1.1≤j)
  (fun a j=>(stepL (fun m=>worthT (movedT t m) k) ML a.1 j,f (movedT t (ML.getD (j+1) [])) a.2))
  (fun j a=>[(1, .mp (.ptr dm lm 0)),(2, .ptr L 32 0),(6, .sl .no 1 (es cInts ML)),(7,i64 (a.1.1:Nat)),(8,i64 a.1.2),(9,i64 ((j+1:Nat):Int))]) (fun _ a=>[(32, .cell (dV t))]::S a.2.1)
  (fun a=>(.exit 0,[(1, .mp (.ptr dm lm 0)),(2, .ptr L 32 0),(6, .sl .no 1 (es cInts ML)),(7,i64 (a.1.1:Nat)),(8,i64 a.1.2),(9,i64 ML.length),(23, .bool false)],[(32, .cell (dV t))]::S a.2.1))
  (by simp) ?_ ?_ ?_ ((0,worthT (movedT t (ML.getD 0 [])) k),f (movedT t (ML.getD 0 [])) K) (by simp) [(1, .mp (.ptr dm lm 0)),(2, .ptr L 32 0),(6, .sl .no 1 (es cInts ML)),(7,i64 0),(8,i64 (worthT (movedT t (ML.getD 0 [])) k)),(9,i64 1)] ([(32, .cell (dV t))]::S (f (movedT t (ML.getD 0 [])) K).1) (by simp[hL,e1]) (by simp[hL])
 ·rw[foldl_pairI (stepL (fun m=>worthT (movedT t m) k) ML) (fun(K:MemR t0) j=>f (movedT t (ML.getD (j+1) [])) K),hb1]at key
  change Run T b66l0 _ _=_ at key
  have hg0:ML.getD 0 []=ML[0]:=by simp[List.getD,hl0]
  have hgb:ML[b]=firstV t k:=by rw[←hb3];simp[List.getD,hb2]
  have hmv0:=hmv 0 hl0
  have hwt0:=hwt 0 hl0 K
  have hbi:(b:Int)<ML.length:=by omega
  have hl0i:(0:Int)<ML.length:=by omega
  rw[hg0]at key
  rw[hg0]
  clear hmv hwt hb1 hb3 hg0
  generalize List.foldl (fun(K:MemR t0) j=>f (movedT t (ML.getD (j+1) [])) K) (f (movedT t ML[0]) K) (List.range (ML.length-1))=K' at*
  generalize worthT (movedT t ML[0]) k=w0 at*
  generalize f (movedT t ML[0]) K=K0 at*
  generalize movedT t ML[0]=u0 at*
  generalize firstV t k=FV at*
  generalize leastV t k=LV at*
  generalize hm00:ML[0]=m00 at*
  rw[den_fn t66 _ _ _ rfl]
  simp only[b66]
  simp (maxSteps:=1000000) (disch:=first|omega|assumption|decide +kernel|(simp;done)|(simp;omega)|fail) [run_drawnK,orSlow_none,hL,e1,hm0,hl0,hl0i,hm00,hmv0,hwt0,key,hb2,hbi,hgb]
 ·intro j a hj hi
  obtain⟨⟨b1,v⟩,K1⟩:=a
  simp only[List.length_range]at hj
  simp only[List.getElem_range]
  have hj1:j+1<ML.length:=by omega
  have hj2:(j:Int)+1<ML.length:=by omega
  have hjt:((j:Int)+1).toNat=j+1:=by omega
  have hg:ML.getD (j+1) []=ML[j+1]:=by simp[List.getD,hj1]
  have hmv1:=hmv (j+1) hj1
  have hwt1:=hwt (j+1) hj1 K1
  have hwr1:=hwr (j+1) hj1
  have hw2:IntKind.i64.wrap ((j:Int)+1+1)=(j:Int)+1+1:=wi _ (by omega) (by omega)
  have hj0:(0:Int)≤(j:Int)+1:=by omega
  simp only[stepL,hg]
  clear hmv hwt hwr
  generalize worthT (movedT t ML[j+1]) k=w at*
  generalize f (movedT t ML[j+1]) K1=K2 at*
  generalize movedT t ML[j+1]=u2 at*
  generalize hm1:ML[j+1]=m1 at*
  by_cases hc:w<v
  ·simp (maxSteps:=1000000) (disch:=first|omega|assumption|decide +kernel|(simp;done)|(simp;omega)|fail) [run_drawnK,orSlow_none,hL,e1,hj0,hj1,hj2,hjt,hm1,hmv1,hwt1,hw2,hc]
  ·simp (maxSteps:=1000000) (disch:=first|omega|assumption|decide +kernel|(simp;done)|(simp;omega)|fail) [run_drawnK,orSlow_none,hL,e1,hj0,hj1,hj2,hjt,hm1,hmv1,hwt1,hw2,hc]
 ·intro j a hj hi
  simp only[List.getElem_range]
  unfold stepL
  split
  ·exact Nat.le_refl _
  ·omega
 ·intro a hi
  have hx:(((ML.length-1+1:Nat)):Int)=ML.length:=by omega
  simp only[List.length_range,hx]
  simp
end Go.Proofs.YtbcjofkfgpbhmaaGreat

/-
  Doors, the reference: worth.
-/
namespace Go.Proofs.YtbcjofkfgpbhmaaGreat
open Go.Ab
theorem leastV_changed(t:DTrap)(c:List Int)(k:Nat):leastV (changedT t c) k=leastT t k c:=by
 unfold leastV leastT leastS
 have e:movesS (waysL (changedT t c))=movesT t c:=rfl
 rw[e]
 congr 1
 exact List.map_congr_left fun m hm=>worth_behind hm k
theorem worthT_succ(t:DTrap)(k:Nat):worthT t (k+1)=((choicesS t.hands.toNat t.gates.length).map fun c=>leastV (changedT t c) k).foldl max 0:=by
 rw[maxL_fold _ _ (by omega),Int.max_eq_right (maxL_nonneg _)]
 unfold worthT
 rw[worthS_succ]
 congr 1
 exact List.map_congr_left fun c _=>(leastV_changed t c k).symm
noncomputable def refK(t0:DTrap):Nat→DTrap→MemR t0→MemR t0
 |0,_,K=>K
 |k+1,t,K=>if (kvGet K.1 [codeT t]).isSome=true then K else((choicesS t.hands.toNat t.gates.length).foldl (fun K c=>leastK t0 (refK t0 k) (changedT t c) K) K).put [codeT t]
theorem fold_pairC {σ τ:Type}(f:σ→List Int→σ)(g:τ→List Int→τ): ∀(l:List (List Int)) (a:σ) (b:τ),l.foldl (fun(p:σ×τ) x=>(f p.1 x,g p.2 x)) (a,b)=(l.foldl f a,l.foldl g b)
 |[],_,_=>rfl
 |x::l,a,b=>by simp only[List.foldl_cons,fold_pairC f g l]
def worthOps:List AOper:=[⟨some 37, .load (some 5) (.t 2),none,[],[]⟩,⟨some 38, .mv (.t 9),none,[],[]⟩,⟨some 39, .mv (.t 10),none,[],[]⟩,⟨some 40, .idxs 1 (.t 38) (.t 39),none,[1,2],[]⟩,⟨some 41, .load none (.t 40),none,[3,1,2],[]⟩,⟨some 42, .call 33 [(.t 37),(.t 41)],none,[0,4,3,1,2],[]⟩,⟨some 43, .mv (.t 1),none,[],[]⟩,⟨some 44, .call 66 [(.t 42),(.t 43)],none,[6,5,0,4,3,1,2],[999999]⟩,⟨some 36, .mv (.t 44),none,[7,6,5,0,4,3,1,2],[]⟩,⟨some 45, .ext (.t 36) 0,none,[8,7,6,5,0,4,3,1,2],[]⟩,⟨some 46, .ext (.t 36) 1,none,[8,7,6,5,0,4,3,1,2],[]⟩,⟨some 11, .mv (.t 45),none,[9,8,7,6,5,0,4,3,1,2],[]⟩,⟨some 12, .mv (.t 46),none,[10,11,9,8,7,6,5,0,4,3,1,2],[]⟩]
theorem worthOps_pre: ∀(i:Nat) o,worthOps[i]? =some o→ ∀p∈o.pre,p<i:=by
 intro i o h
 match i with
 |0|1|2|3|4|5|6|7|8|9|10|11|12=>simp[worthOps]at h;subst h;simp
 |i+13=>simp[worthOps]at h
structure WorthI(t u:DTrap)(LC:List (List Int))(j:Nat)(c1 fv:List Int)(w:Int)(dm lm:Nat)(x2 x5 x8:V)(done:List Nat)(e:Env):Prop where
 g1:e.get 1= .mp (.ptr dm lm 0)
 g2:e.get 2=x2
 g5:e.get 5=x5
 g8:e.get 8=x8
 g9:e.get 9= .sl .no 1 (es cInts LC)
 g10:e.get 10=i64 (j:Nat)
 h0:0∈done→e.get 37= .agg (dV t)
 h1:1∈done→e.get 38= .sl .no 1 (es cInts LC)
 h2:2∈done→e.get 39=i64 (j:Nat)
 h3:3∈done→e.get 40= .ep [.sl .no 1 (es cInt c1)]
 h4:4∈done→e.get 41= .sl .no 1 (es cInt c1)
 h5:5∈done→e.get 42= .agg (dV u)
 h6:6∈done→e.get 43= .mp (.ptr dm lm 0)
 h7:7∈done→e.get 44= .tup [i64 w, .sl .no 1 (es cInt fv)]
 h8:8∈done→e.get 36= .tup [i64 w, .sl .no 1 (es cInt fv)]
 h9:9∈done→e.get 45=i64 w
 h10:10∈done→e.get 46= .sl .no 1 (es cInt fv)
 h11:11∈done→e.get 11=i64 w
 h12:12∈done→e.get 12= .sl .no 1 (es cInt fv)
 c75:7∈done→5∈done
set_option maxHeartbeats 8000000 in
theorem worth_region {dm lm L:Nat} {S:List (List Int×Int)→Stk}(G:MapD dm lm L S)(t u:DTrap)(LC:List (List Int))(j:Nat)(hj:j<LC.length)(c1 fv:List Int)(hc1:LC[j]=c1)(w:Int)(x5 x8:V)(K2 K3:List (List Int×Int))
 (hcg: ∀lab s,den T 33 [.agg (dV t), .sl .no 1 (es cInt c1)] lab s=some (.agg (dV u),s)) (hls: ∀lab,den T 66 [.agg (dV u), .mp (.ptr dm lm 0)] lab ([(32, .cell (dV t))]::S K2)=some (.tup [i64 w, .sl .no 1 (es cInt fv)],[(32, .cell (dV t))]::S K3)):
 runAny T (Run T) worthOps [1,2,5,8,9,10,11] worthOps [] [(1, .mp (.ptr dm lm 0)),(2, .ptr L 32 0),(5,x5),(8,x8),(9, .sl .no 1 (es cInts LC)),(10,i64 (j:Nat)),(33, .bool true)] ([(32, .cell (dV t))]::S K2)=
  some ([(1, .mp (.ptr dm lm 0)),(2, .ptr L 32 0),(5,x5),(8,x8),(9, .sl .no 1 (es cInts LC)),(10,i64 (j:Nat)),(11,i64 w)],[(32, .cell (dV t))]::S K3):=by
 have hL:=G.len
 have hj2:(j:Int)<LC.length:=by omega
 have f32: ∀K,sget ([(32, .cell (dV t))]::S K) L 32=some (.cell (dV t)):=fun K=>by rw[←hL K,sget_top];rfl
 refine runAny_start (fun done e s=>WorthI t u LC j c1 fv w dm lm (.ptr L 32 0) x5 x8 done e∧s=[(32, .cell (dV t))]::S (if 7∈done then K3 else K2)) _ ?_ ?_ ?_
 ·exact⟨⟨rfl,rfl,rfl,rfl,rfl,rfl,by simp,by simp,by simp,by simp,by simp,by simp,by simp,by simp,by simp,by simp,by simp,by simp,by simp,by simp⟩,by simp⟩
 ·intro done e s ⟨h,hs⟩ hr
  have hall:=ready_all hr worthOps_pre
  simp[Env.only,h.g1,h.g2,h.g5,h.g8,h.g9,h.g10,h.h11 (hall 11 (by simp[worthOps])),hs,hall 7 (by simp[worthOps])]
 ·intro done e s i o ⟨h,hs⟩ ho hn hp
  match i with
  |0=>
    simp[worthOps]at ho;subst ho
    have hl:sget s L 32=some (.cell (dV t)):=by rw[hs];exact f32 _
    refine⟨(37, .agg (dV t))::e,s,by simp[h.g2,hl],⟨⟨by simp[h.g1],by simp[h.g2],by simp[h.g5],by simp[h.g8],by simp[h.g9],by simp[h.g10],fun _=>by simp,fun hm=>by have:=h.h1 (by simpa using hm);simpa using this,fun hm=>by have:=h.h2 (by simpa using hm);simpa using this,fun hm=>by have:=h.h3 (by simpa using hm);simpa using this,fun hm=>by have:=h.h4 (by simpa using hm);simpa using this,fun hm=>by have:=h.h5 (by simpa using hm);simpa using this,fun hm=>by have:=h.h6 (by simpa using hm);simpa using this,fun hm=>by have:=h.h7 (by simpa using hm);simpa using this,fun hm=>by have:=h.h8 (by simpa using hm);simpa using this,fun hm=>by have:=h.h9 (by simpa using hm);simpa using this,fun hm=>by have:=h.h10 (by simpa using hm);simpa using this,fun hm=>by have:=h.h11 (by simpa using hm);simpa using this,fun hm=>by have:=h.h12 (by simpa using hm);simpa using this,fun hm=>by have:=h.c75 (by simpa using hm);simp[this]⟩,by simpa using hs⟩⟩
  |1=>
    simp[worthOps]at ho;subst ho
    refine⟨(38, .sl .no 1 (es cInts LC))::e,s,by simp[h.g9],⟨⟨by simp[h.g1],by simp[h.g2],by simp[h.g5],by simp[h.g8],by simp[h.g9],by simp[h.g10],fun hm=>by have:=h.h0 (by simpa using hm);simpa using this,fun _=>by simp,fun hm=>by have:=h.h2 (by simpa using hm);simpa using this,fun hm=>by have:=h.h3 (by simpa using hm);simpa using this,fun hm=>by have:=h.h4 (by simpa using hm);simpa using this,fun hm=>by have:=h.h5 (by simpa using hm);simpa using this,fun hm=>by have:=h.h6 (by simpa using hm);simpa using this,fun hm=>by have:=h.h7 (by simpa using hm);simpa using this,fun hm=>by have:=h.h8 (by simpa using hm);simpa using this,fun hm=>by have:=h.h9 (by simpa using hm);simpa using this,fun hm=>by have:=h.h10 (by simpa using hm);simpa using this,fun hm=>by have:=h.h11 (by simpa using hm);simpa using this,fun hm=>by have:=h.h12 (by simpa using hm);simpa using this,fun hm=>by have:=h.c75 (by simpa using hm);simp[this]⟩,by simpa using hs⟩⟩
  |2=>
    simp[worthOps]at ho;subst ho
    refine⟨(39,i64 (j:Nat))::e,s,by simp[h.g10],⟨⟨by simp[h.g1],by simp[h.g2],by simp[h.g5],by simp[h.g8],by simp[h.g9],by simp[h.g10],fun hm=>by have:=h.h0 (by simpa using hm);simpa using this,fun hm=>by have:=h.h1 (by simpa using hm);simpa using this,fun _=>by simp,fun hm=>by have:=h.h3 (by simpa using hm);simpa using this,fun hm=>by have:=h.h4 (by simpa using hm);simpa using this,fun hm=>by have:=h.h5 (by simpa using hm);simpa using this,fun hm=>by have:=h.h6 (by simpa using hm);simpa using this,fun hm=>by have:=h.h7 (by simpa using hm);simpa using this,fun hm=>by have:=h.h8 (by simpa using hm);simpa using this,fun hm=>by have:=h.h9 (by simpa using hm);simpa using this,fun hm=>by have:=h.h10 (by simpa using hm);simpa using this,fun hm=>by have:=h.h11 (by simpa using hm);simpa using this,fun hm=>by have:=h.h12 (by simpa using hm);simpa using this,fun hm=>by have:=h.c75 (by simpa using hm);simp[this]⟩,by simpa using hs⟩⟩
  |3=>
    simp[worthOps]at ho;subst ho
    have m1:=hp 1 (by simp)
    have m2:=hp 2 (by simp)
    refine⟨(40, .ep [.sl .no 1 (es cInt c1)])::e,s,by simp[h.h1 m1,h.h2 m2,hj,hj2,hc1],⟨⟨by simp[h.g1],by simp[h.g2],by simp[h.g5],by simp[h.g8],by simp[h.g9],by simp[h.g10],fun hm=>by have:=h.h0 (by simpa using hm);simpa using this,fun hm=>by have:=h.h1 (by simpa using hm);simpa using this,fun hm=>by have:=h.h2 (by simpa using hm);simpa using this,fun _=>by simp,fun hm=>by have:=h.h4 (by simpa using hm);simpa using this,fun hm=>by have:=h.h5 (by simpa using hm);simpa using this,fun hm=>by have:=h.h6 (by simpa using hm);simpa using this,fun hm=>by have:=h.h7 (by simpa using hm);simpa using this,fun hm=>by have:=h.h8 (by simpa using hm);simpa using this,fun hm=>by have:=h.h9 (by simpa using hm);simpa using this,fun hm=>by have:=h.h10 (by simpa using hm);simpa using this,fun hm=>by have:=h.h11 (by simpa using hm);simpa using this,fun hm=>by have:=h.h12 (by simpa using hm);simpa using this,fun hm=>by have:=h.c75 (by simpa using hm);simp[this]⟩,by simpa using hs⟩⟩
  |4=>
    simp[worthOps]at ho;subst ho
    have m1:=hp 1 (by simp)
    have m2:=hp 2 (by simp)
    have m3:=hp 3 (by simp)
    refine⟨(41, .sl .no 1 (es cInt c1))::e,s,by simp[h.h3 m3],⟨⟨by simp[h.g1],by simp[h.g2],by simp[h.g5],by simp[h.g8],by simp[h.g9],by simp[h.g10],fun hm=>by have:=h.h0 (by simpa using hm);simpa using this,fun hm=>by have:=h.h1 (by simpa using hm);simpa using this,fun hm=>by have:=h.h2 (by simpa using hm);simpa using this,fun hm=>by have:=h.h3 (by simpa using hm);simpa using this,fun _=>by simp,fun hm=>by have:=h.h5 (by simpa using hm);simpa using this,fun hm=>by have:=h.h6 (by simpa using hm);simpa using this,fun hm=>by have:=h.h7 (by simpa using hm);simpa using this,fun hm=>by have:=h.h8 (by simpa using hm);simpa using this,fun hm=>by have:=h.h9 (by simpa using hm);simpa using this,fun hm=>by have:=h.h10 (by simpa using hm);simpa using this,fun hm=>by have:=h.h11 (by simpa using hm);simpa using this,fun hm=>by have:=h.h12 (by simpa using hm);simpa using this,fun hm=>by have:=h.c75 (by simpa using hm);simp[this]⟩,by simpa using hs⟩⟩
  |5=>
    simp[worthOps]at ho;subst ho
    have m0:=hp 0 (by simp)
    have m1:=hp 1 (by simp)
    have m2:=hp 2 (by simp)
    have m3:=hp 3 (by simp)
    have m4:=hp 4 (by simp)
    have n7:7∉done:=fun h7=>hn (h.c75 h7)
    have hcg2:=hcg
    simp only[dV]at hcg2
    refine⟨(42, .agg (dV u))::e,s,by simp[h.h0 m0,h.h4 m4,hcg2],⟨⟨by simp[h.g1],by simp[h.g2],by simp[h.g5],by simp[h.g8],by simp[h.g9],by simp[h.g10],fun hm=>by have:=h.h0 (by simpa using hm);simpa using this,fun hm=>by have:=h.h1 (by simpa using hm);simpa using this,fun hm=>by have:=h.h2 (by simpa using hm);simpa using this,fun hm=>by have:=h.h3 (by simpa using hm);simpa using this,fun hm=>by have:=h.h4 (by simpa using hm);simpa using this,fun _=>by simp,fun hm=>by have:=h.h6 (by simpa using hm);simpa using this,fun hm=>by have:=h.h7 (by simpa using hm);simpa using this,fun hm=>by have:=h.h8 (by simpa using hm);simpa using this,fun hm=>by have:=h.h9 (by simpa using hm);simpa using this,fun hm=>by have:=h.h10 (by simpa using hm);simpa using this,fun hm=>by have:=h.h11 (by simpa using hm);simpa using this,fun hm=>by have:=h.h12 (by simpa using hm);simpa using this,fun hm=>by have:=h.c75 (by simpa using hm);simp[this]⟩,by simpa using hs⟩⟩
  |6=>
    simp[worthOps]at ho;subst ho
    refine⟨(43, .mp (.ptr dm lm 0))::e,s,by simp[h.g1],⟨⟨by simp[h.g1],by simp[h.g2],by simp[h.g5],by simp[h.g8],by simp[h.g9],by simp[h.g10],fun hm=>by have:=h.h0 (by simpa using hm);simpa using this,fun hm=>by have:=h.h1 (by simpa using hm);simpa using this,fun hm=>by have:=h.h2 (by simpa using hm);simpa using this,fun hm=>by have:=h.h3 (by simpa using hm);simpa using this,fun hm=>by have:=h.h4 (by simpa using hm);simpa using this,fun hm=>by have:=h.h5 (by simpa using hm);simpa using this,fun _=>by simp,fun hm=>by have:=h.h7 (by simpa using hm);simpa using this,fun hm=>by have:=h.h8 (by simpa using hm);simpa using this,fun hm=>by have:=h.h9 (by simpa using hm);simpa using this,fun hm=>by have:=h.h10 (by simpa using hm);simpa using this,fun hm=>by have:=h.h11 (by simpa using hm);simpa using this,fun hm=>by have:=h.h12 (by simpa using hm);simpa using this,fun hm=>by have:=h.c75 (by simpa using hm);simp[this]⟩,by simpa using hs⟩⟩
  |7=>
    simp[worthOps]at ho;subst ho
    have m0:=hp 0 (by simp)
    have m1:=hp 1 (by simp)
    have m2:=hp 2 (by simp)
    have m3:=hp 3 (by simp)
    have m4:=hp 4 (by simp)
    have m5:=hp 5 (by simp)
    have m6:=hp 6 (by simp)
    rw[if_neg hn]at hs
    subst hs
    have hls2:=hls
    simp only[dV]at hls2
    refine⟨(44, .tup [i64 w, .sl .no 1 (es cInt fv)])::e,[(32, .cell (dV t))]::S K3,by simp[h.h5 m5,h.h6 m6,hls2],⟨⟨by simp[h.g1],by simp[h.g2],by simp[h.g5],by simp[h.g8],by simp[h.g9],by simp[h.g10],fun hm=>by have:=h.h0 (by simpa using hm);simpa using this,fun hm=>by have:=h.h1 (by simpa using hm);simpa using this,fun hm=>by have:=h.h2 (by simpa using hm);simpa using this,fun hm=>by have:=h.h3 (by simpa using hm);simpa using this,fun hm=>by have:=h.h4 (by simpa using hm);simpa using this,fun hm=>by have:=h.h5 (by simpa using hm);simpa using this,fun hm=>by have:=h.h6 (by simpa using hm);simpa using this,fun _=>by simp,fun hm=>by have:=h.h8 (by simpa using hm);simpa using this,fun hm=>by have:=h.h9 (by simpa using hm);simpa using this,fun hm=>by have:=h.h10 (by simpa using hm);simpa using this,fun hm=>by have:=h.h11 (by simpa using hm);simpa using this,fun hm=>by have:=h.h12 (by simpa using hm);simpa using this,fun hm=>by simp[m5]⟩,by simp⟩⟩
  |8=>
    simp[worthOps]at ho;subst ho
    have m0:=hp 0 (by simp)
    have m1:=hp 1 (by simp)
    have m2:=hp 2 (by simp)
    have m3:=hp 3 (by simp)
    have m4:=hp 4 (by simp)
    have m5:=hp 5 (by simp)
    have m6:=hp 6 (by simp)
    have m7:=hp 7 (by simp)
    refine⟨(36, .tup [i64 w, .sl .no 1 (es cInt fv)])::e,s,by simp[h.h7 m7],⟨⟨by simp[h.g1],by simp[h.g2],by simp[h.g5],by simp[h.g8],by simp[h.g9],by simp[h.g10],fun hm=>by have:=h.h0 (by simpa using hm);simpa using this,fun hm=>by have:=h.h1 (by simpa using hm);simpa using this,fun hm=>by have:=h.h2 (by simpa using hm);simpa using this,fun hm=>by have:=h.h3 (by simpa using hm);simpa using this,fun hm=>by have:=h.h4 (by simpa using hm);simpa using this,fun hm=>by have:=h.h5 (by simpa using hm);simpa using this,fun hm=>by have:=h.h6 (by simpa using hm);simpa using this,fun hm=>by have:=h.h7 (by simpa using hm);simpa using this,fun _=>by simp,fun hm=>by have:=h.h9 (by simpa using hm);simpa using this,fun hm=>by have:=h.h10 (by simpa using hm);simpa using this,fun hm=>by have:=h.h11 (by simpa using hm);simpa using this,fun hm=>by have:=h.h12 (by simpa using hm);simpa using this,fun hm=>by have:=h.c75 (by simpa using hm);simp[this]⟩,by simpa using hs⟩⟩
  |9=>
    simp[worthOps]at ho;subst ho
    have m0:=hp 0 (by simp)
    have m1:=hp 1 (by simp)
    have m2:=hp 2 (by simp)
    have m3:=hp 3 (by simp)
    have m4:=hp 4 (by simp)
    have m5:=hp 5 (by simp)
    have m6:=hp 6 (by simp)
    have m7:=hp 7 (by simp)
    have m8:=hp 8 (by simp)
    refine⟨(45,i64 w)::e,s,by simp[h.h8 m8],⟨⟨by simp[h.g1],by simp[h.g2],by simp[h.g5],by simp[h.g8],by simp[h.g9],by simp[h.g10],fun hm=>by have:=h.h0 (by simpa using hm);simpa using this,fun hm=>by have:=h.h1 (by simpa using hm);simpa using this,fun hm=>by have:=h.h2 (by simpa using hm);simpa using this,fun hm=>by have:=h.h3 (by simpa using hm);simpa using this,fun hm=>by have:=h.h4 (by simpa using hm);simpa using this,fun hm=>by have:=h.h5 (by simpa using hm);simpa using this,fun hm=>by have:=h.h6 (by simpa using hm);simpa using this,fun hm=>by have:=h.h7 (by simpa using hm);simpa using this,fun hm=>by have:=h.h8 (by simpa using hm);simpa using this,fun _=>by simp,fun hm=>by have:=h.h10 (by simpa using hm);simpa using this,fun hm=>by have:=h.h11 (by simpa using hm);simpa using this,fun hm=>by have:=h.h12 (by simpa using hm);simpa using this,fun hm=>by have:=h.c75 (by simpa using hm);simp[this]⟩,by simpa using hs⟩⟩
  |10=>
    simp[worthOps]at ho;subst ho
    have m0:=hp 0 (by simp)
    have m1:=hp 1 (by simp)
    have m2:=hp 2 (by simp)
    have m3:=hp 3 (by simp)
    have m4:=hp 4 (by simp)
    have m5:=hp 5 (by simp)
    have m6:=hp 6 (by simp)
    have m7:=hp 7 (by simp)
    have m8:=hp 8 (by simp)
    refine⟨(46, .sl .no 1 (es cInt fv))::e,s,by simp[h.h8 m8],⟨⟨by simp[h.g1],by simp[h.g2],by simp[h.g5],by simp[h.g8],by simp[h.g9],by simp[h.g10],fun hm=>by have:=h.h0 (by simpa using hm);simpa using this,fun hm=>by have:=h.h1 (by simpa using hm);simpa using this,fun hm=>by have:=h.h2 (by simpa using hm);simpa using this,fun hm=>by have:=h.h3 (by simpa using hm);simpa using this,fun hm=>by have:=h.h4 (by simpa using hm);simpa using this,fun hm=>by have:=h.h5 (by simpa using hm);simpa using this,fun hm=>by have:=h.h6 (by simpa using hm);simpa using this,fun hm=>by have:=h.h7 (by simpa using hm);simpa using this,fun hm=>by have:=h.h8 (by simpa using hm);simpa using this,fun hm=>by have:=h.h9 (by simpa using hm);simpa using this,fun _=>by simp,fun hm=>by have:=h.h11 (by simpa using hm);simpa using this,fun hm=>by have:=h.h12 (by simpa using hm);simpa using this,fun hm=>by have:=h.c75 (by simpa using hm);simp[this]⟩,by simpa using hs⟩⟩
  |11=>
    simp[worthOps]at ho;subst ho
    have m0:=hp 0 (by simp)
    have m1:=hp 1 (by simp)
    have m2:=hp 2 (by simp)
    have m3:=hp 3 (by simp)
    have m4:=hp 4 (by simp)
    have m5:=hp 5 (by simp)
    have m6:=hp 6 (by simp)
    have m7:=hp 7 (by simp)
    have m8:=hp 8 (by simp)
    have m9:=hp 9 (by simp)
    refine⟨(11,i64 w)::e,s,by simp[h.h9 m9],⟨⟨by simp[h.g1],by simp[h.g2],by simp[h.g5],by simp[h.g8],by simp[h.g9],by simp[h.g10],fun hm=>by have:=h.h0 (by simpa using hm);simpa using this,fun hm=>by have:=h.h1 (by simpa using hm);simpa using this,fun hm=>by have:=h.h2 (by simpa using hm);simpa using this,fun hm=>by have:=h.h3 (by simpa using hm);simpa using this,fun hm=>by have:=h.h4 (by simpa using hm);simpa using this,fun hm=>by have:=h.h5 (by simpa using hm);simpa using this,fun hm=>by have:=h.h6 (by simpa using hm);simpa using this,fun hm=>by have:=h.h7 (by simpa using hm);simpa using this,fun hm=>by have:=h.h8 (by simpa using hm);simpa using this,fun hm=>by have:=h.h9 (by simpa using hm);simpa using this,fun hm=>by have:=h.h10 (by simpa using hm);simpa using this,fun _=>by simp,fun hm=>by have:=h.h12 (by simpa using hm);simpa using this,fun hm=>by have:=h.c75 (by simpa using hm);simp[this]⟩,by simpa using hs⟩⟩
  |12=>
    simp[worthOps]at ho;subst ho
    have m0:=hp 0 (by simp)
    have m1:=hp 1 (by simp)
    have m2:=hp 2 (by simp)
    have m3:=hp 3 (by simp)
    have m4:=hp 4 (by simp)
    have m5:=hp 5 (by simp)
    have m6:=hp 6 (by simp)
    have m7:=hp 7 (by simp)
    have m8:=hp 8 (by simp)
    have m10:=hp 10 (by simp)
    refine⟨(12, .sl .no 1 (es cInt fv))::e,s,by simp[h.h10 m10],⟨⟨by simp[h.g1],by simp[h.g2],by simp[h.g5],by simp[h.g8],by simp[h.g9],by simp[h.g10],fun hm=>by have:=h.h0 (by simpa using hm);simpa using this,fun hm=>by have:=h.h1 (by simpa using hm);simpa using this,fun hm=>by have:=h.h2 (by simpa using hm);simpa using this,fun hm=>by have:=h.h3 (by simpa using hm);simpa using this,fun hm=>by have:=h.h4 (by simpa using hm);simpa using this,fun hm=>by have:=h.h5 (by simpa using hm);simpa using this,fun hm=>by have:=h.h6 (by simpa using hm);simpa using this,fun hm=>by have:=h.h7 (by simpa using hm);simpa using this,fun hm=>by have:=h.h8 (by simpa using hm);simpa using this,fun hm=>by have:=h.h9 (by simpa using hm);simpa using this,fun hm=>by have:=h.h10 (by simpa using hm);simpa using this,fun hm=>by have:=h.h11 (by simpa using hm);simpa using this,fun _=>by simp,fun hm=>by have:=h.c75 (by simpa using hm);simp[this]⟩,by simpa using hs⟩⟩
  |i+13=>simp[worthOps]at ho
set_option maxHeartbeats 8000000 in
theorem e_worthR(t0:DTrap)(k:Nat):k≤4→WorthD t0 k (refK t0 k):=by
 induction k with
 |zero=>
   intro _ dm lm L S G t hs h hT K lab
   have hL:=G.len
   have hca:=fun lab s=>e_Caught t h lab s
   have e:caughtS t.chambers.toNat (fishL t) (posL t)=worthT t 0:=rfl
   rw[e]at hca
   have hT0:(t.turns=0)=True:=by simp[hT]
   simp only[refK]
   generalize worthT t 0=w at*
   rw[den_fn t45 _ _ _ rfl]
   simp only[b45]
   simp (maxSteps:=1000000) (disch:=first|omega|assumption|decide +kernel|(simp;done)|(simp;omega)|fail) [hL,hT0,hca]
 |succ k ih0=>
   intro hk dm lm L S G t hs h hT K lab
   have ih:= @ih0 (by omega)
   have hL:=G.len
   have hd:=G.ltm
   have e1: ¬dm=L:=by omega
   have hme:=G.mem
   have hpu:=G.put
   have hT0:(t.turns=0)=False:=by simp;omega
   have hcd:=fun lab s=>e_code t h lab s
   have hch:=fun lab s=>e_ChoicesOf t h lab s
   have hwc:=wCode_eq hs h
   have hTn:t.turns.toNat=k+1:=by omega
   rw[hTn]at hwc
   have hws:=worthT_succ t k
   have hshort:=doorB_short (doorB_iff.2 h)
   have hlenC:(choicesS t.hands.toNat t.gates.length).length≤32:=by
    have h1:=(chB_len h).2.2
    have h2:(chB t).length=(choicesS t.hands.toNat t.gates.length).length:=by simp[chB,natI,changesB]
    omega
   have hmc: ∀c∈choicesS t.hands.toNat t.gates.length,c.length<1000000000000∧(∀y∈c,0≤y∧y<t.gates.length)∧c.Pairwise (· < ·):=fun c hc=>by
    obtain⟨q1,q2,q3⟩:=mem_choices.1 hc
    have:=h.ha
    exact⟨by omega,q3,q2⟩
   have hlr: ∀c,0≤leastV (changedT t c) k∧leastV (changedT t c) k≤297:=fun c=>by
    rw[leastV_changed]
    obtain⟨m,hm,e⟩:=leastS_mem t.chambers.toNat t.hands.toNat (fishL t) k (flipG t.gates c) (posL t)
    have hr:=lO_range h k (gN t) (nAt t)
    have h1:=leastT_range h k c
    have h2:=worthT_range h 0
    refine⟨h1.1,Int.le_trans h1.2 ?_⟩
    have key: ∀l:List Int,(∀f∈l,0≤f∧f≤99)→sumF l≤99*l.length:=by
     intro l
     induction l with
     |nil=>intro _;simp[sumF]
     |cons x r ih=>
       intro hh
       have:=ih fun f hf=>hh f (by simp[hf])
       have:=hh x (by simp)
       simp only[sumF,List.foldr_cons,List.length_cons]at*
       omega
    have h5:=key (fishL t) fun f hf=>by
     obtain⟨g,hg,rfl⟩:=List.mem_map.1 hf
     exact(h.groups g hg).2
    have h4:(fishL t).length≤3:=by simpa [fishL]using h.ol
    omega
   simp only[refK]
   generalize hLC:choicesS t.hands.toNat t.gates.length=LC at*
   have hls:=fun(c:List Int) (K:MemR t0) lab=>e_least ih (G.push [[(32, .cell (dV t))]]) (changedT t c) (changed_same hs c) (changed_ok h c) hT K lab
   have hcg:=fun(c:List Int) hc lab s=>e_Changed t hshort c (hmc c hc).1 (hmc c hc).2.1 (hmc c hc).2.2 lab s
   simp only[List.cons_append,List.nil_append]at hls
   have key:=loop_fold (T:=Go.Proofs.YtbcjofkfgpbhmaaGreat.T) (live:=[1,2,5,8,9,10]) (keep:=[32,272,304,464]) (b:=d45l0) LC (fun _ (a:Int×MemR t0)=>0≤a.1∧a.1≤297)
    (fun a c=>(max a.1 (leastV (changedT t c) k),leastK t0 (refK t0 k) (changedT t c) a.2))
    (fun j a=>[(1, .mp (.ptr dm lm 0)),(2, .ptr L 32 0),(5,i64 (codeT t)),(8,i64 a.1),(9, .sl .no 1 (es cInts LC)),(10,i64 (j:Nat))]) (fun _ a=>[(32, .cell (dV t))]::S a.2.1)
    (fun a=>(.exit 0,[(1, .mp (.ptr dm lm 0)),(2, .ptr L 32 0),(5,i64 (codeT t)),(8,i64 a.1),(9, .sl .no 1 (es cInts LC)),(10,i64 LC.length),(33, .bool false)],[(32, .cell (dV t))]::S a.2.1))
    (by simp) ?_ ?_ ?_ (0,K) (by simp) [(1, .mp (.ptr dm lm 0)),(2, .ptr L 32 0),(5,i64 (codeT t)),(8,i64 0),(9, .sl .no 1 (es cInts LC)),(10,i64 0)] ([(32, .cell (dV t))]::S K.1) (by simp[hL,e1]) (by simp[hL])
   ·rw[fold_pairC (fun a c=>max a (leastV (changedT t c) k)) (fun(K:MemR t0) c=>leastK t0 (refK t0 k) (changedT t c) K),←List.foldl_map (f:=fun c=>leastV (changedT t c) k) (g:=max),←hws]at key
    change Run Go.Proofs.YtbcjofkfgpbhmaaGreat.T b45l0 _ _=_ at key
    have hr: ∀v,kvGet K.1 [codeT t]=some v→v=worthT t (k+1):=fun v hv=>by rw[←hwc];exact K.2 _ _ hv
    generalize List.foldl (fun(K:MemR t0) c=>leastK t0 (refK t0 k) (changedT t c) K) K LC=K' at*
    have hput:(K'.put [codeT t]).1=kvPut K'.1 [codeT t] (worthT t (k+1)):=by
     show kvPut _ _ (wCode t0 [codeT t])=_
     rw[hwc]
    clear hls hcg hlr hws
    generalize worthT t (k+1)=w at*
    generalize codeT t=cd at*
    cases hv:kvGet K.1 [cd]with
    |some v=>
      obtain rfl:=hr v hv
      rw[den_fn t45 _ _ _ rfl]
      simp only[b45]
      simp (maxSteps:=1000000) (disch:=first|omega|assumption|decide +kernel|(simp;done)|(simp;omega)|fail) [run_drawnK,orSlow_none,hL,hme,hpu,e1,hT0,hcd,hv]
    |none=>
      simp only[Option.isSome_none,Bool.false_eq_true,if_false,hput]
      rw[den_fn t45 _ _ _ rfl]
      simp only[b45]
      simp (maxSteps:=1000000) (disch:=first|omega|assumption|decide +kernel|(simp;done)|(simp;omega)|fail) [run_drawnK,orSlow_none,hL,hme,hpu,e1,hT0,hcd,hv,hch,key]
   ·intro j a hj hi
    obtain⟨a,K2⟩:=a
    have hj2:(j:Int)<LC.length:=by omega
    have hls1:=hls LC[j] K2
    have hcg1:=hcg LC[j] (List.getElem_mem hj)
    have hlr1:=hlr LC[j]
    clear hls hcg hlr hws
    simp only at hi⊢
    generalize leastV (changedT t LC[j]) k=w at*
    generalize firstV (changedT t LC[j]) k=fv at*
    generalize leastK t0 (refK t0 k) (changedT t LC[j]) K2=K3 at*
    generalize changedT t LC[j]=u2 at*
    generalize hc1:LC[j]=c1 at*
    have hreg:=worth_region G t u2 LC j hj c1 fv hc1 w (i64 (codeT t)) (i64 a) K2.1 K3.1 hcg1 hls1
    simp only[worthOps]at hreg
    simp (maxSteps:=1000000) (disch:=first|omega|assumption|decide +kernel|(simp;done)|(simp;omega)|fail) [run_each2,hj,hj2,hc1,hL,e1,hreg,wk j (by omega)]
   ·intro j a hj hi
    have:=hlr LC[j]
    simp only
    omega
   ·intro a hi
    simp
end Go.Proofs.YtbcjofkfgpbhmaaGreat

/-
  DoorsAfter: its equation.
-/
namespace Go.Proofs.YtbcjofkfgpbhmaaGreat
open Go.Ab
theorem MapD.top {s:Stk} {lm:Nat} {X:List (List Int×Int)→Ab.Loc}(hm: ∀K,(X K).get lm=some (.mp none K))(hp: ∀K K',(X K).put lm (.mp none K')=X K'):MapD s.length lm (s.length+1) (fun K=>X K::s) where
 len:=fun K=>by simp
 ltm:=by omega
 mem:=fun K=>by rw[sget_top,hm]
 put:=fun K K'=>by rw[sput_top,hp]
end Go.Proofs.YtbcjofkfgpbhmaaGreat

/-
  Doors, the reference: Worth, Turns, Plan.
-/
namespace Go.Proofs.YtbcjofkfgpbhmaaGreat
open Go.Ab
theorem turning_same(t:DTrap)(k:Int):SameS t (turningT t k):=⟨rfl,rfl,rfl,rfl⟩
set_option maxHeartbeats 4000000 in
theorem e_WorthOf(t:DTrap)(h:DoorOk t)(lab s):den T 27 [.agg (dV t)] lab s=some (i64 (worthT t t.turns.toNat),s):=by
 have htu:=h.tu
 have hk:t.turns=((t.turns.toNat:Nat):Int):=by omega
 have hw:=fun lab=> @e_worthR t t.turns.toNat (by omega) _ _ _ _ (MapD.top (s:=s) (lm:=64) (X:=fun K=>[(16, .cell (dV t)),(64, .mp none K)]) (fun K=>rfl) (fun K K'=>rfl)) t (SameS.rfl' t) h hk Mem.nil lab
 simp only[Mem.nil_val]at hw
 generalize worthT t t.turns.toNat=w at*
 generalize refK t _ t Mem.nil=K' at*
 rw[den_fn t27 _ _ _ rfl]
 simp only[b27]
 simp (maxSteps:=1000000) (disch:=first|omega|assumption|decide +kernel|(simp;done)|(simp;omega)|fail) [hw]
end Go.Proofs.YtbcjofkfgpbhmaaGreat

/-
  Doors, the reference: can.
-/
namespace Go.Proofs.YtbcjofkfgpbhmaaGreat
open Go.Ab
def canT(t:DTrap)(k:Nat):Bool:=canG t.chambers.toNat t.hands.toNat (fishL t) k t.gates (posL t)
theorem moves_single(W:List Int):movesS [W]=W.map fun x=>[x]:=by
 simp only[movesS,List.map_cons,List.map_nil]
 induction W with
 |nil=>rfl
 |cons x W ih=>rw[List.flatMap_cons,ih];rfl
theorem canT_succ {t:DTrap} {g:DGroup}(hg:t.groups=[g])(k:Nat):canT t (k+1)=(choicesS t.hands.toNat t.gates.length).any fun c=>(waysS t.chambers.toNat (flipG t.gates c) g.pos).any fun w=>canT (movedT (changedT t c) [w]) k:=by
 unfold canT
 rw[canG]
 refine any_congr fun c _=> ?_
 have e:posL t=[g.pos]:=by simp[posL,hg]
 rw[e,List.map_cons,List.map_nil,moves_single,List.any_map]
 refine any_congr fun w _=> ?_
 have e1:fishL (movedT (changedT t c) [w])=fishL t:=fishL_moved _ _
 have e2:posL (movedT (changedT t c) [w])=[w]:=posL_moved (t:=changedT t c) (by simp[changedT,hg])
 simp only[Function.comp]
 rw[e1,e2];rfl
open Classical in
noncomputable def cCode(t0:DTrap):List Int→Int
 |[c]=>if h: ∃t,SameS t0 t∧DoorOk t∧codeT t=c then(if canT h.choose h.choose.turns.toNat=true then 0 else 1)else 0
 |_=>0
theorem cCode_eq {t0 t:DTrap}(hs:SameS t0 t)(h:DoorOk t):cCode t0 [codeT t]=if canT t t.turns.toNat=true then 0 else 1:=by
 have hex: ∃t',SameS t0 t'∧DoorOk t'∧codeT t'=codeT t:=⟨t,hs,h,rfl⟩
 simp only[cCode]
 rw[dif_pos hex]
 obtain⟨h1,h2,h3⟩:=hex.choose_spec
 have:hex.choose=t:=code_inj (h1.symm.trans hs) h2 h h3
 rw[this]
abbrev MemN(t0:DTrap):=Mem (cCode t0)
def CanRD(t0:DTrap)(k:Nat)(f:DTrap→MemN t0→MemN t0):Prop:= ∀ {dm lm L:Nat} {S:List (List Int×Int)→Stk},MapD dm lm L S→
 ∀(t:DTrap),SameS t0 t→DoorOk t→t.turns=(k:Nat)→t.groups.length=1→ ∀(K:MemN t0) (lab:Nat),den T 28 [.agg (dV t), .mp (.ptr dm lm 0)] lab (S K.1)=some (.bool (canT t k),S (f t K).1)
def canStep(t0 u:DTrap)(k:Nat)(f:DTrap→MemN t0→MemN t0)(K:MemN t0)(w:Int):MemN t0×Bool:=(f (movedT u [w]) K,!canT (movedT u [w]) k)
set_option maxHeartbeats 8000000 in
theorem can_l1 {t0:DTrap} {k:Nat} {f}(hf:CanRD t0 k f) {dm lm L:Nat} {S:List (List Int×Int)→Stk}(G:MapD dm lm L S)(t u:DTrap)(hs:SameS t0 u)(hu:DoorOk u)(hT:u.turns=((k+1:Nat):Int))(hg1:u.groups.length=1)(W:List Int)(hW: ∀w∈W,[w]∈movesS ((posL u).map (waysS u.chambers.toNat u.gates)))(hWl:W.length≤5)(LC:List (List Int))(j:Nat)(K:MemN t0):
 Run T b28l1 [(1, .mp (.ptr dm lm 0)),(2, .ptr L 32 0),(5, .sl .no 1 (es cInts LC)),(6,i64 (j:Nat)),(7, .ptr L 112 0),(8, .sl .no 1 (es cInt W)),(9,i64 0)] ([(32, .cell (dV t)),(112, .cell (dV u))]::S K.1)=
  if (foldB (canStep t0 u k f) W K).2=true then some (.exit 2,[(1, .mp (.ptr dm lm 0)),(2, .ptr L 32 0),(5, .sl .no 1 (es cInts LC)),(6,i64 (j:Nat)),(7, .ptr L 112 0),(8, .sl .no 1 (es cInt W)),(9,i64 W.length),(45, .bool false)],[(32, .cell (dV t)),(112, .cell (dV u))]::S (foldB (canStep t0 u k f) W K).1.1)
  else some (.ret,[(4, .bool true)],[(32, .cell (dV t)),(112, .cell (dV u))]::S (foldB (canStep t0 u k f) W K).1.1):=by
 have hL:=G.len
 have hd:=G.ltm
 have e1: ¬dm=L:=by omega
 have htu:=hu.tu
 have hsh:=doorB_short (doorB_iff.2 hu)
 have key:=loop_list_e (T:=Go.Proofs.YtbcjofkfgpbhmaaGreat.T) (γ:=Unit) (live:=[1,2,5,6,7,8,9]) (keep:=[32,112,224,288,352,544,656,944]) (b:=d28l1) W (fun _ (_:MemN t0)=>True)
  (fun q _=>[(1, .mp (.ptr dm lm 0)),(2, .ptr L 32 0),(5, .sl .no 1 (es cInts LC)),(6,i64 (j:Nat)),(7, .ptr L 112 0),(8, .sl .no 1 (es cInt W)),(9,i64 (q:Nat))]) (fun _ K=>[(32, .cell (dV t)),(112, .cell (dV u))]::S K.1)
  (canStep t0 u k f) (fun _ K=>(.ret,[(4, .bool true)],[(32, .cell (dV t)),(112, .cell (dV u))]::S K.1))
  (fun K=>(.exit 2,[(1, .mp (.ptr dm lm 0)),(2, .ptr L 32 0),(5, .sl .no 1 (es cInts LC)),(6,i64 (j:Nat)),(7, .ptr L 112 0),(8, .sl .no 1 (es cInt W)),(9,i64 W.length),(45, .bool false)],[(32, .cell (dV t)),(112, .cell (dV u))]::S K.1))
  (by simp) (by simp) ?_ ?_ K trivial [(1, .mp (.ptr dm lm 0)),(2, .ptr L 32 0),(5, .sl .no 1 (es cInts LC)),(6,i64 (j:Nat)),(7, .ptr L 112 0),(8, .sl .no 1 (es cInt W)),(9,i64 0)] ([(32, .cell (dV t)),(112, .cell (dV u))]::S K.1) (by simp[hL,e1]) (by simp[hL])
 ·exact key.elim fun _ h=>h
 ·intro q K2 hq _
  have hq2:(q:Int)<W.length:=by omega
  have hw:=hW _ (List.getElem_mem hq)
  generalize hx:W[q]=w at*
  have hmv:=fun lab s=>e_Moved u hsh ⟨by omega,htu.2⟩ [w] (by rw[hg1];rfl) lab s
  have hca:=fun lab=>hf (G.push [[(32, .cell (dV t)),(112, .cell (dV u))]]) (movedT u [w]) (moved_same hs _) (moved_ok hu (by omega) hw) (by simp only[movedT];omega) (by simpa [movedT]using hg1) K2 lab
  have ew:es cInt [w]=[[i64 w]]:=rfl
  simp only[List.cons_append,List.nil_append,ew]at hca hmv
  unfold canStep
  generalize canT (movedT u [w]) k=b at*
  generalize f (movedT u [w]) K2=K3 at*
  generalize movedT u [w]=u2 at*
  cases b
  ·refine⟨fun _=>⟨?_,trivial⟩,fun hf=>by simp at hf⟩
   simp (maxSteps:=1000000) (disch:=first|omega|assumption|decide +kernel|(simp;done)|(simp;omega)|fail) [run_drawnK,orSlow_none,hq,hq2,hx,hL,e1,hmv,hca,wk q (by omega)]
  ·refine⟨fun hf=>by simp at hf,fun _=>⟨(),?_⟩⟩
   simp (maxSteps:=1000000) (disch:=first|omega|assumption|decide +kernel|(simp;done)|(simp;omega)|fail) [run_drawnK,orSlow_none,hq,hq2,hx,hL,e1,hmv,hca]
 ·intro K2 _
  simp
end Go.Proofs.YtbcjofkfgpbhmaaGreat

/-
  Doors, the reference: can, the whole; Alone, Catch.
-/
namespace Go.Proofs.YtbcjofkfgpbhmaaGreat
open Go.Ab
def canOut(t0 t:DTrap)(p:Int)(k:Nat)(f:DTrap→MemN t0→MemN t0)(a:MemN t0×DTrap)(c:List Int):(MemN t0×DTrap)×Bool:=
 (((foldB (canStep t0 (changedT t c) k f) (waysS t.chambers.toNat (flipG t.gates c) p) a.1).1,changedT t c),(foldB (canStep t0 (changedT t c) k f) (waysS t.chambers.toNat (flipG t.gates c) p) a.1).2)
noncomputable def canRK(t0:DTrap):Nat→DTrap→MemN t0→MemN t0
 |0,_,K=>K
 |k+1,t,K=>if 0<(kvGet K.1 [codeT t]).getD 0 then K else
   if (foldB (canOut t0 t ((posL t).getD 0 0) k (canRK t0 k)) (choicesS t.hands.toNat t.gates.length) (K,t)).2=true then(foldB (canOut t0 t ((posL t).getD 0 0) k (canRK t0 k)) (choicesS t.hands.toNat t.gates.length) (K,t)).1.1.put [codeT t]
   else(foldB (canOut t0 t ((posL t).getD 0 0) k (canRK t0 k)) (choicesS t.hands.toNat t.gates.length) (K,t)).1.1
theorem canOut_not {t:DTrap} {g:DGroup}(hg:t.groups=[g]) {t0:DTrap}(k:Nat)(f:DTrap→MemN t0→MemN t0)(a:MemN t0×DTrap):(foldB (canOut t0 t ((posL t).getD 0 0) k f) (choicesS t.hands.toNat t.gates.length) a).2= !canT t (k+1):=by
 rw[canT_succ hg]
 refine foldB_not fun a c _=> ?_
 have e:(posL t).getD 0 0=g.pos:=by simp[posL,hg]
 rw[e]
 exact foldB_not (f:=canStep t0 (changedT t c) k f) (p:=fun w=>canT (movedT (changedT t c) [w]) k) fun a w _=>rfl
set_option maxHeartbeats 16000000 in
theorem e_can(t0:DTrap)(k:Nat):k≤4→CanRD t0 k (canRK t0 k):=by
 induction k with
 |zero=>
   intro _ dm lm L S G t hs h hT hg1 K lab
   have hL:=G.len
   have hca:=fun lab s=>e_Caught t h lab s
   have e:canT t 0=decide (0<caughtS t.chambers.toNat (fishL t) (posL t)):=rfl
   rw[e]
   have hT0:(t.turns=0)=True:=by simp[hT]
   simp only[canRK]
   generalize caughtS t.chambers.toNat (fishL t) (posL t)=w at*
   rw[den_fn t28 _ _ _ rfl]
   simp only[b28]
   simp (maxSteps:=1000000) (disch:=first|omega|assumption|decide +kernel|(simp;done)|(simp;omega)|fail) [hL,hT0,hca]
 |succ k ih0=>
   intro hk dm lm L S G t hs h hT hg1 K lab
   have ih:= @ih0 (by omega)
   have hL:=G.len
   have hd:=G.ltm
   have e1: ¬dm=L:=by omega
   have hme:=G.mem
   have hpu:=G.put
   have hT0:(t.turns=0)=False:=by simp;omega
   have hcd:=fun lab s=>e_code t h lab s
   have hch:=fun lab s=>e_ChoicesOf t h lab s
   have hcc:=cCode_eq hs h
   have hTn:t.turns.toNat=k+1:=by omega
   rw[hTn]at hcc
   obtain⟨g,hg⟩: ∃g,t.groups=[g]:=by
    match hh:t.groups,hg1 with
    |[g],_=>exact⟨g,rfl⟩
   have hnot:=fun(f:DTrap→MemN t0→MemN t0) (a:MemN t0×DTrap)=>canOut_not hg k f a
   have hp0:(posL t).getD 0 0=g.pos:=by simp[posL,hg]
   have hshort:=doorB_short (doorB_iff.2 h)
   have hlenC:(choicesS t.hands.toNat t.gates.length).length≤32:=by
    have h1:=(chB_len h).2.2
    have h2:(chB t).length=(choicesS t.hands.toNat t.gates.length).length:=by simp[chB,natI,changesB]
    omega
   have hmc: ∀c∈choicesS t.hands.toNat t.gates.length,c.length<1000000000000∧(∀y∈c,0≤y∧y<t.gates.length)∧c.Pairwise (· < ·):=fun c hc=>by
    obtain⟨q1,q2,q3⟩:=mem_choices.1 hc
    have:=h.ha
    exact⟨by omega,q3,q2⟩
   simp only[canRK]
   rw[hp0]at hnot⊢
   generalize hLC:choicesS t.hands.toNat t.gates.length=LC at*
   have key:=loop_list_e (T:=Go.Proofs.YtbcjofkfgpbhmaaGreat.T) (γ:=Unit) (live:=[1,2,5,6]) (keep:=[32,224,288,352,944]) (b:=d28l0) LC (fun _ (_:MemN t0×DTrap)=>True)
    (fun j _=>[(1, .mp (.ptr dm lm 0)),(2, .ptr L 32 0),(5, .sl .no 1 (es cInts LC)),(6,i64 (j:Nat))]) (fun _ a=>[(32, .cell (dV t))]::S a.1.1)
    (canOut t0 t g.pos k (canRK t0 k)) (fun _ a=>(.ret,[(4, .bool true)],[(32, .cell (dV t)),(112, .cell (dV a.2))]::S a.1.1))
    (fun a=>(.exit 0,[(1, .mp (.ptr dm lm 0)),(2, .ptr L 32 0),(5, .sl .no 1 (es cInts LC)),(6,i64 LC.length),(26, .bool false)],[(32, .cell (dV t))]::S a.1.1))
    (by simp) (by simp) ?_ ?_ (K,t) trivial [(1, .mp (.ptr dm lm 0)),(2, .ptr L 32 0),(5, .sl .no 1 (es cInts LC)),(6,i64 0)] ([(32, .cell (dV t))]::S K.1) (by simp[hL,e1]) (by simp[hL])
   ·replace key:=key.elim fun _ h=>h
    change Run Go.Proofs.YtbcjofkfgpbhmaaGreat.T b28l0 _ _=_ at key
    rw[hnot]at key⊢
    have hr: ∀v,kvGet K.1 [codeT t]=some v→v=if canT t (k+1)=true then 0 else 1:=fun v hv=>by rw[←hcc];exact K.2 _ _ hv
    generalize (foldB (canOut t0 t g.pos k (canRK t0 k)) LC (K,t)).1=Q at*
    obtain⟨K',u⟩:=Q
    simp only at key⊢
    have hput:(K'.put [codeT t]).1=kvPut K'.1 [codeT t] (if canT t (k+1)=true then 0 else 1):=by
     show kvPut _ _ (cCode t0 [codeT t])=_
     rw[hcc]
    clear hnot ih ih0
    generalize codeT t=cd at*
    cases hco:canT t (k+1)<;>rw[hco]at key hr hput
    ·simp only[Bool.not_false,if_true,Bool.false_eq_true,if_false]at key hr hput⊢
     cases hv:kvGet K.1 [cd]with
     |some v=>
       obtain rfl:=hr v hv
       simp only[Option.getD_some,show(0:Int)<1 from by decide,if_true]
       rw[den_fn t28 _ _ _ rfl]
       simp only[b28]
       simp (maxSteps:=1000000) (disch:=first|omega|assumption|decide +kernel|(simp;done)|(simp;omega)|fail) [run_drawnK,orSlow_none,hL,hme,hpu,e1,hT0,hcd,hv]
     |none=>
       simp only[Option.getD_none,show¬(0:Int)<0 from by decide,if_false,hput]
       rw[den_fn t28 _ _ _ rfl]
       simp only[b28]
       simp (maxSteps:=1000000) (disch:=first|omega|assumption|decide +kernel|(simp;done)|(simp;omega)|fail) [run_drawnK,orSlow_none,hL,hme,hpu,e1,hT0,hcd,hv,hch,key]
    ·simp only[Bool.not_true,if_true,Bool.false_eq_true,if_false]at key hr hput⊢
     cases hv:kvGet K.1 [cd]with
     |some v=>
       obtain rfl:=hr v hv
       simp only[Option.getD_some,show¬(0:Int)<0 from by decide,if_false]
       rw[den_fn t28 _ _ _ rfl]
       simp only[b28]
       simp (maxSteps:=1000000) (disch:=first|omega|assumption|decide +kernel|(simp;done)|(simp;omega)|fail) [run_drawnK,orSlow_none,hL,hme,hpu,e1,hT0,hcd,hv,hch,key]
     |none=>
       simp only[Option.getD_none,show¬(0:Int)<0 from by decide,if_false]
       rw[den_fn t28 _ _ _ rfl]
       simp only[b28]
       simp (maxSteps:=1000000) (disch:=first|omega|assumption|decide +kernel|(simp;done)|(simp;omega)|fail) [run_drawnK,orSlow_none,hL,hme,hpu,e1,hT0,hcd,hv,hch,key]
   ·intro j a hj _
    obtain⟨K2,u0⟩:=a
    have hj2:(j:Int)<LC.length:=by omega
    obtain⟨m1,m2,m3⟩:=hmc _ (List.getElem_mem hj)
    have hcg:=fun lab s=>e_Changed t hshort LC[j] m1 m2 m3 lab s
    have hu:=changed_ok h LC[j]
    have hug:(changedT t LC[j]).groups=[g]:=hg
    have hwo:=fun p lab s=>e_WaysOf (changedT t LC[j]) hu p lab s
    have eW:waysS (changedT t LC[j]).chambers.toNat (changedT t LC[j]).gates g.pos=waysS t.chambers.toNat (flipG t.gates LC[j]) g.pos:=rfl
    have hwl:=waysS_len (n:=t.chambers.toNat) (gs:=flipG t.gates LC[j]) (p:=g.pos)
    have hchm:=h.ch
    have hl1:=can_l1 ih G t (changedT t LC[j]) (changed_same hs _) hu hT (by rw[hug];rfl) (waysS t.chambers.toNat (flipG t.gates LC[j]) g.pos) (fun w hw=>by
     have e:posL (changedT t LC[j])=[g.pos]:=by simp[posL,hug]
     rw[e,List.map_cons,List.map_nil,moves_single]
     exact List.mem_map.2 ⟨w,hw,rfl⟩) (by omega) LC j K2
    have hwo2:=hwo g.pos
    rw[eW]at hwo2
    unfold canOut
    simp only
    generalize foldB (canStep t0 (changedT t LC[j]) k (canRK t0 k)) (waysS t.chambers.toNat (flipG t.gates LC[j]) g.pos) K2=R at*
    obtain⟨K3,b⟩:=R
    simp only at hl1⊢
    generalize waysS t.chambers.toNat (flipG t.gates LC[j]) g.pos=W at*
    have hu0:0<(changedT t LC[j]).groups.length:=by rw[hug];simp
    have hu1:(0:Int)<(changedT t LC[j]).groups.length:=by omega
    have huG:(changedT t LC[j]).groups[0]=g:=by simp[hug]
    clear hwo eW hug hnot ih ih0 hmc
    generalize changedT t LC[j]=u at*
    generalize hc1:LC[j]=c1 at*
    cases b
    ·refine⟨fun hf=>by simp at hf,fun _=>⟨(),?_⟩⟩
     simp only[Bool.false_eq_true,if_false]at hl1
     simp (maxSteps:=1000000) (disch:=first|omega|assumption|decide +kernel|(simp;done)|(simp;omega)|fail) [run_drawnK,orSlow_none,hj,hj2,hc1,hL,e1,hcg,hu0,hu1,huG,hwo2,hl1]
    ·refine⟨fun _=>⟨?_,trivial⟩,fun hf=>by simp at hf⟩
     simp only[if_true]at hl1
     simp (maxSteps:=1000000) (disch:=first|omega|assumption|decide +kernel|(simp;done)|(simp;omega)|fail) [run_drawnK,orSlow_none,hj,hj2,hc1,hL,e1,hcg,hu0,hu1,huG,hwo2,hl1,wk j (by omega)]
   ·intro a _
    simp
end Go.Proofs.YtbcjofkfgpbhmaaGreat

/-
  Doors, the reference: Alone, Catch.
-/
namespace Go.Proofs.YtbcjofkfgpbhmaaGreat
open Go.Ab
def aloneR(t:DTrap)(i:Nat):DTrap:= {t with groups:=[⟨(t.groups.getD i default).pos,1⟩]}
theorem aloneR_ok {t:DTrap}(h:DoorOk t) {i:Nat}(hi:i<t.groups.length):DoorOk (aloneR t i) where
 ch:=h.ch
 tu:=h.tu
 ha:=h.ha
 gl:=h.gl
 ol:=by simp[aloneR]
 gates:=h.gates
 groups:=fun g hg=>by
  simp only[aloneR,List.mem_singleton]at hg
  subst hg
  have e:t.groups.getD i default=t.groups[i]:=by simp[List.getD,hi]
  have:=(h.groups _ (List.getElem_mem hi)).1
  have e2:(aloneR t i).chambers=t.chambers:=rfl
  rw[e,e2]
  simp only
  omega
set_option maxHeartbeats 4000000 in
theorem e_Alone(t:DTrap)(hs:ShortD t)(i:Nat)(hi:i<t.groups.length)(lab s):den T 26 [.agg (dV t),i64 (i:Nat)] lab s=some (.agg (dV (aloneR t i)),s):=by
 have hcp:=fun lab loc s k0 k1=>e_CopyD t hs lab loc s k0 k1
 have hi2:(i:Int)<t.groups.length:=by omega
 have e:t.groups.getD i default=t.groups[i]:=by simp[List.getD,hi]
 have er:dV (aloneR t i)=[i64 t.chambers,i64 t.turns,i64 t.hands, .sl .no 3 (es cGate t.gates), .sl .no 2 [[i64 t.groups[i].pos,i64 1]]]:=by
  unfold aloneR;rw[e];rfl
 rw[er]
 generalize hG:t.groups[i]=G at*
 rw[den_fn t26 _ _ _ rfl]
 simp only[b26]
 simp (maxSteps:=1000000) (disch:=first|omega|assumption|decide +kernel|(simp;done)|(simp;omega)|fail) [run_drawnK,orSlow_none,hcp,hi,hi2,hG]
set_option maxHeartbeats 8000000 in
theorem e_CatchR(t:DTrap)(hs:ShortD t)(g:Int)(lab s):den T 8 [.agg (dV t),i64 g] lab s=some (.tup [i64 (catchR t g).1,i64 (catchR t g).2],s):=by
 have ha:=fun b lab s=>e_ask t hs b lab s
 have hig:=fun lab s=>e_IsGroup t hs g lab s
 unfold catchR
 unfold askD at ha
 cases h:doorB t
 ·simp only[h,Bool.false_eq_true,if_false]at ha⊢
  rw[den_fn t8 _ _ _ rfl]
  simp only[b8]
  simp (maxSteps:=1000000) (disch:=first|omega|assumption|decide +kernel|(simp;done)|(simp;omega)|fail) [run_drawnK,orSlow_none,ha,hig]
 have ho:=doorB_iff.1 h
 simp only[h,if_true]at ha⊢
 cases hw:wiB g 0 (t.groups.length-1)<;>rw[hw]at hig
 ·rw[den_fn t8 _ _ _ rfl]
  simp only[b8]
  simp (maxSteps:=1000000) (disch:=first|omega|assumption|decide +kernel|(simp;done)|(simp;omega)|fail) [run_drawnK,orSlow_none,ha,hig]
 have hgb:0≤g∧g≤t.groups.length-1:=by simpa [wiB]using hw
 obtain⟨i,rfl⟩: ∃i:Nat,g=i:=⟨g.toNat,by omega⟩
 have hi:i<t.groups.length:=by omega
 have htu:=ho.tu
 have hal:=fun lab s=>e_Alone t hs i hi lab s
 have hok:=aloneR_ok ho hi
 have hwo:=fun lab s=>e_WorthOf (aloneR t i) hok lab s
 have hT:(aloneR t i).turns=((t.turns.toNat:Nat):Int):=by simp only[aloneR];omega
 have hca:=fun lab=> @e_can (aloneR t i) t.turns.toNat (by omega) _ _ _ _ (MapD.top (s:=s) (lm:=400) (X:=fun K=>[(32, .cell (dV t)),(112, .cell (dV (aloneR t i))),(400, .mp none K)]) (fun K=>rfl) (fun K K'=>rfl)) (aloneR t i) (SameS.rfl' _) hok hT rfl Mem.nil lab
 simp only[Mem.nil_val]at hca
 have hp:posOf t (i:Nat)=(t.groups.getD i default).pos:=by simp[posOf,posL,hi,List.getD]
 have ew:worthT (aloneR t i) (aloneR t i).turns.toNat=aloneW t t.turns.toNat t.gates (posOf t i):=by rw[hp];rfl
 have ec:canT (aloneR t i) t.turns.toNat=aloneC t t.turns.toNat t.gates (posOf t i):=by rw[hp];rfl
 rw[ew]at hwo
 rw[ec]at hca
 rw[catchV_eq]
 have hr:=aloneW_range t t.turns.toNat t.gates (posOf t i)
 clear ew ec hp
 generalize aloneW t t.turns.toNat t.gates (posOf t i)=w at*
 generalize aloneC t t.turns.toNat t.gates (posOf t i)=b at*
 generalize canRK (aloneR t i) _ _ _=K' at*
 generalize aloneR t i=u at*
 by_cases h1:w=1
 ·have h1':0<w:=by omega
  rw[if_pos h1]
  rw[den_fn t8 _ _ _ rfl]
  simp only[b8]
  simp (maxSteps:=1000000) (disch:=first|omega|assumption|decide +kernel|(simp;done)|(simp;omega)|fail) [run_drawnK,orSlow_none,ha,hig,hal,hwo,h1']
 ·have h1': ¬0<w:=by omega
  rw[if_neg h1]
  cases b
  ·rw[den_fn t8 _ _ _ rfl]
   simp only[b8]
   simp (maxSteps:=1000000) (disch:=first|omega|assumption|decide +kernel|(simp;done)|(simp;omega)|fail) [run_drawnK,orSlow_none,ha,hig,hal,hwo,h1',hca]
  ·rw[den_fn t8 _ _ _ rfl]
   simp only[b8]
   simp (maxSteps:=1000000) (disch:=first|omega|assumption|decide +kernel|(simp;done)|(simp;omega)|fail) [run_drawnK,orSlow_none,ha,hig,hal,hwo,h1',hca]
end Go.Proofs.YtbcjofkfgpbhmaaGreat

/-
  Doors, the reference: reached, mark.
-/
namespace Go.Proofs.YtbcjofkfgpbhmaaGreat
open Go.Ab
theorem foldl_orB {α:Type}(f:α→Bool): ∀(l:List α) (a:Bool),l.foldl (fun a p=>a||f p) a=(a||l.any f)
 |[],a=>by simp
 |x::l,a=>by rw[List.foldl_cons,foldl_orB f l,List.any_cons,Bool.or_assoc]
def inW(t:DTrap)(c p:Int):Bool:=anyB (fun x=>decide (x=c)) (waysS t.chambers.toNat t.gates p)
set_option maxHeartbeats 4000000 in
theorem reach_l1(t:DTrap)(h:DoorOk t)(S:List Int)(hS:S.length≤1000)(c:Nat)(out:List Int)(s:Stk):
 Run T b53l1 [(1, .sl .no 1 (es cInt S)),(2, .ptr s.length 32 0),(5, .sl (.own s.length 81) 1 (es cInt out)),(6,i64 (c:Nat)),(7, .bool false),(8,i64 0)] ([(32, .cell (dV t)),(81, .tok out.length)]::s)=
  some (.exit 2,[(1, .sl .no 1 (es cInt S)),(2, .ptr s.length 32 0),(5, .sl (.own s.length 81) 1 (es cInt out)),(6,i64 (c:Nat)),(7, .bool (S.any (inW t (c:Nat)))),(8,i64 S.length),(18, .bool false)],[(32, .cell (dV t)),(81, .tok out.length)]::s):=by
 have key:=loop_fold (T:=Go.Proofs.YtbcjofkfgpbhmaaGreat.T) (live:=[1,2,5,6,7,8]) (keep:=[32,81,560,576]) (b:=d53l1) S (fun _ (_:Bool)=>True) (fun a p=>a||inW t (c:Nat) p)
  (fun k a=>[(1, .sl .no 1 (es cInt S)),(2, .ptr s.length 32 0),(5, .sl (.own s.length 81) 1 (es cInt out)),(6,i64 (c:Nat)),(7, .bool a),(8,i64 (k:Nat))]) (fun _ _=>[(32, .cell (dV t)),(81, .tok out.length)]::s)
  (fun a=>(.exit 2,[(1, .sl .no 1 (es cInt S)),(2, .ptr s.length 32 0),(5, .sl (.own s.length 81) 1 (es cInt out)),(6,i64 (c:Nat)),(7, .bool a),(8,i64 S.length),(18, .bool false)],[(32, .cell (dV t)),(81, .tok out.length)]::s))
  (by simp) ?_ ?_ ?_ false trivial [(1, .sl .no 1 (es cInt S)),(2, .ptr s.length 32 0),(5, .sl (.own s.length 81) 1 (es cInt out)),(6,i64 (c:Nat)),(7, .bool false),(8,i64 0)] ([(32, .cell (dV t)),(81, .tok out.length)]::s) (by simp) (by simp)
 ·rw[foldl_orB,Bool.false_or]at key
  exact key
 ·intro k a hk _
  have hk2:(k:Int)<S.length:=by omega
  have hwy:=fun p lab s=>e_WaysOf t h p lab s
  have hwl: ∀p,(waysS t.chambers.toNat t.gates p).length<4611686018427387904:=fun p=>by
   have:=waysS_len (n:=t.chambers.toNat) (gs:=t.gates) (p:=p)
   have:=h.ch
   omega
  have hin:=fun p lab s=>e_In (waysS t.chambers.toNat t.gates p) (c:Nat) (hwl p) lab s
  change∀p lab s,_=some (V.bool (inW t (c:Nat) p),s)at hin
  generalize hx:S[k]=x at*
  have hwx:=hwy x
  have hix:=hin x
  generalize inW t (c:Nat) x=b at*
  generalize waysS t.chambers.toNat t.gates x=W at*
  clear hwy hin hwl
  cases a
  ·simp (maxSteps:=1000000) (disch:=first|omega|assumption|decide +kernel|(simp;done)|(simp;omega)|fail) [run_drawnK,orSlow_none,hk,hk2,hx,hwx,hix,wk k (by omega)]
  ·simp (maxSteps:=1000000) (disch:=first|omega|assumption|decide +kernel|(simp;done)|(simp;omega)|fail) [run_drawnK,orSlow_none,hk,hk2,hx,hwx,hix,wk k (by omega)]
 ·intro k a hk _;trivial
 ·intro a _
  simp
theorem reach_eq(t:DTrap)(S:List Int):(List.range t.chambers.toNat).foldl (fun(a:List Int) c=>if S.any (inW t (c:Nat))=true then a ++[(c:Int)]else a) []=reachS t.chambers.toNat t.gates S:=by
 have key: ∀(p:Int→Bool) (l:List Nat) (a:List Int),l.foldl (fun(a:List Int) (c:Nat)=>if p (c:Nat)=true then a ++[(c:Int)]else a) a=a ++(l.map fun(c:Nat)=>(c:Int)).filter p:=by
  intro p l
  induction l with
  |nil=>intro a;simp
  |cons x l ih=>
    intro a
    rw[List.foldl_cons,ih]
    by_cases hp:p (x:Nat)=true
    ·rw[if_pos hp,List.map_cons,List.filter_cons_of_pos hp,List.append_assoc];rfl
    ·rw[if_neg hp,List.map_cons,List.filter_cons_of_neg hp]
 rw[key (fun c=>S.any (inW t c))]
 unfold reachS rangeI
 rw[List.nil_append]
 congr 1
 funext c
 refine any_congr fun p _=> ?_
 rw[Bool.eq_iff_iff]
 simp[inW,anyB]
set_option maxHeartbeats 4000000 in
theorem e_reached(t:DTrap)(h:DoorOk t)(S:List Int)(hS:S.length≤1000)(lab s):den T 53 [.agg (dV t), .sl .no 1 (es cInt S)] lab s=some (.sl .no 1 (es cInt (reachS t.chambers.toNat t.gates S)),s):=by
 have hch:=h.ch
 have key:=loop_fold (T:=Go.Proofs.YtbcjofkfgpbhmaaGreat.T) (live:=[1,2,5,6]) (keep:=[32,81]) (b:=d53l0) (List.range t.chambers.toNat) (fun k (a:List Int)=>a.length≤k) (fun(a:List Int) c=>if S.any (inW t (c:Nat))=true then a ++[(c:Int)]else a)
  (fun k a=>[(1, .sl .no 1 (es cInt S)),(2, .ptr s.length 32 0),(5, .sl (.own s.length 81) 1 (es cInt a)),(6,i64 (k:Nat))]) (fun _ a=>[(32, .cell (dV t)),(81, .tok a.length)]::s)
  (fun a=>(.exit 0,[(1, .sl .no 1 (es cInt S)),(2, .ptr s.length 32 0),(5, .sl (.own s.length 81) 1 (es cInt a)),(6,i64 t.chambers),(12, .bool false)],[(32, .cell (dV t)),(81, .tok a.length)]::s))
  (by simp) ?_ ?_ ?_ [] (by simp) [(5, .sl (.own s.length 81) 1 []),(1, .sl .no 1 (es cInt S)),(2, .ptr s.length 32 0),(5, .sl .full 1 []),(6,i64 0)] ([(32, .cell (dV t)),(81, .tok 0)]::s) (by simp) (by simp)
 ·rw[reach_eq]at key
  change Run T b53l0 _ _=_ at key
  generalize reachS t.chambers.toNat t.gates S=R at*
  rw[den_fn t53 _ _ _ rfl]
  simp only[b53]
  simp (maxSteps:=1000000) (disch:=first|omega|assumption|decide +kernel|(simp;done)|(simp;omega)|fail) [key]
 ·intro k a hk hi
  simp only[List.length_range]at hk
  simp only[List.getElem_range]
  have hk2:(k:Int)<t.chambers:=by omega
  have hl1:=reach_l1 t h S hS k a s
  have e0:es cInt a ++[[i64 (k:Nat)]]=es cInt (a ++[(k:Int)]):=by simp[es]
  generalize S.any (inW t (k:Nat))=b at*
  cases b
  ·simp (maxSteps:=1000000) (disch:=first|omega|assumption|decide +kernel|(simp;done)|(simp;omega)|fail) [run_drawnK,orSlow_none,hk2,hl1,wk k (by omega)]
  ·simp (maxSteps:=1000000) (disch:=first|omega|assumption|decide +kernel|(simp;done)|(simp;omega)|fail) [run_drawnK,orSlow_none,hk2,hl1,e0,appK_own1,wk k (by omega)]
 ·intro k a hk hi
  split
  ·simp;omega
  ·omega
 ·intro a hi
  have e:((t.chambers.toNat:Nat):Int)=t.chambers:=by omega
  simp only[List.length_range,e]
  simp
end Go.Proofs.YtbcjofkfgpbhmaaGreat

/-
  Doors, the reference: mark: a number for each state of the blind game.
-/
namespace Go.Proofs.YtbcjofkfgpbhmaaGreat
open Go.Ab
def bitC(S:List Int)(c:Int):Int:=if anyB (fun x=>decide (x=c)) S=true then 1 else 0
def markS(N:Nat)(n:Int)(S:List Int):Int:=(List.range N).foldl (fun(n:Int) c=>n*2+bitC S (c:Nat)) n
def markT(t:DTrap)(at':List (List Int)):Int:=at'.foldl (markS t.chambers.toNat) (codeG t)
theorem bitC_range(S:List Int)(c:Int):0≤bitC S c∧bitC S c<2:=by unfold bitC;split<;>omega
theorem markS_inj {N:Nat} {n n':Int} {S S':List Int}(h:markS N n S=markS N n' S'):n=n'∧ ∀c:Nat,c<N→bitC S (c:Nat)=bitC S' (c:Nat):=by
 unfold markS at h
 have e: ∀(S:List Int) (n:Int),(List.range N).foldl (fun(n:Int) c=>n*2+bitC S (c:Nat)) n=((List.range N).map fun(c:Nat)=>bitC S (c:Nat)).foldl (fun n x=>n*2+x) n:=fun S n=>by rw[List.foldl_map]
 rw[e,e]at h
 have hr: ∀S:List Int,∀x∈(List.range N).map (fun(c:Nat)=>bitC S (c:Nat)),0≤x∧x<2:=fun S x hx=>by
  obtain⟨c,_,rfl⟩:=List.mem_map.1 hx
  exact bitC_range S _
 obtain⟨h1,h2⟩:=fold2_inj _ _ _ _ (by simp) (hr S) (hr S') h
 refine⟨h1,fun c hc=> ?_⟩
 have:=congrArg (fun l=>l[c]?) h2
 simpa [hc]using this
structure AtOk(t:DTrap)(at':List (List Int)):Prop where
 len:at'.length=t.groups.length
 s: ∀S∈at',S.Pairwise (· < ·)
 r: ∀S∈at',∀x∈S,0≤x∧x<(t.chambers.toNat:Int)
theorem bitC_mem(S:List Int)(c:Int):bitC S c=1↔c∈S:=by
 unfold bitC
 simp only[anyB,List.any_eq_true,decide_eq_true_eq,exists_eq_right]
 split<;>simp_all
theorem set_eq {N:Nat} {S S':List Int}(h1:S.Pairwise (· < ·))(h2:S'.Pairwise (· < ·))(r1: ∀x∈S,0≤x∧x<(N:Int))(r2: ∀x∈S',0≤x∧x<(N:Int))(h: ∀c:Nat,c<N→bitC S (c:Nat)=bitC S' (c:Nat)):S=S':=by
 refine sorted_int h1 h2 fun x=>⟨fun hx=> ?_,fun hx=> ?_⟩
 ·have hr:=r1 x hx
  have e:=h x.toNat (by omega)
  rw[show((x.toNat:Nat):Int)=x by omega]at e
  exact(bitC_mem S' x).1 (e▸(bitC_mem S x).2 hx)
 ·have hr:=r2 x hx
  have e:=h x.toNat (by omega)
  rw[show((x.toNat:Nat):Int)=x by omega]at e
  exact(bitC_mem S x).1 (e▸(bitC_mem S' x).2 hx)
theorem marks_inj {N:Nat}: ∀(l l':List (List Int)) (n n':Int),l.length=l'.length→(∀S∈l,S.Pairwise (· < ·))→(∀S∈l',S.Pairwise (· < ·))→(∀S∈l,∀x∈S,0≤x∧x<(N:Int))→(∀S∈l',∀x∈S,0≤x∧x<(N:Int))→
 l.foldl (markS N) n=l'.foldl (markS N) n'→n=n'∧l=l'
 |[],[],n,n',_,_,_,_,_,h=>⟨h,rfl⟩
 |S::l,S'::l',n,n',hl,s1,s2,r1,r2,h=>by
   obtain⟨e1,e2⟩:=marks_inj l l' _ _ (by simpa using hl) (fun X hX=>s1 X (by simp[hX])) (fun X hX=>s2 X (by simp[hX])) (fun X hX=>r1 X (by simp[hX])) (fun X hX=>r2 X (by simp[hX])) h
   obtain⟨e3,e4⟩:=markS_inj e1
   exact⟨e3,by rw[e2,set_eq (s1 S (by simp)) (s2 S' (by simp)) (r1 S (by simp)) (r2 S' (by simp)) e4]⟩
def blX(t:DTrap)(k:Nat)(at':List (List Int)):Int:=blindS t.chambers.toNat t.hands.toNat (fishL t) k t.gates at'
theorem mark_inj {t t':DTrap} {a a':List (List Int)}(hs:SameS t t')(h:AtOk t a)(h':AtOk t' a')(e:markT t a=markT t' a'):t'.turns=t.turns∧t'.gates=t.gates∧a'=a:=by
 have hfl:t'.groups.length=t.groups.length:=by simpa [fishL]using congrArg List.length hs.fi
 have hgl:t'.gates.length=t.gates.length:=by simpa using congrArg List.length hs.ga
 have ho: ∀(t:DTrap),∀x∈t.gates.map opD,0≤x∧x<2:=fun t x hx=>by
  obtain⟨g,hg,rfl⟩:=List.mem_map.1 hx
  unfold opD
  split<;>omega
 unfold markT at e
 rw[hs.ch]at e
 have r2:=h'.r
 rw[hs.ch]at r2
 obtain⟨e1,e2⟩:=marks_inj _ _ _ _ (by rw[h.len,h'.len,hfl]) h.s h'.s h.r r2 e
 obtain⟨e3,e4⟩:=fold2_inj _ _ _ _ (by simp[hgl]) (ho t) (ho t') e1
 exact⟨e3.symm,gates_eq hs.ga e4.symm,e2.symm⟩
open Classical in
noncomputable def mCode(t0:DTrap):List Int→Int
 |[c]=>if h: ∃p:DTrap×List (List Int),SameS t0 p.1∧AtOk p.1 p.2∧markT p.1 p.2=c then blX h.choose.1 h.choose.1.turns.toNat h.choose.2 else 0
 |_=>0
theorem mCode_eq {t0 t:DTrap} {a:List (List Int)}(hs:SameS t0 t)(h:AtOk t a):mCode t0 [markT t a]=blX t t.turns.toNat a:=by
 have hex: ∃p:DTrap×List (List Int),SameS t0 p.1∧AtOk p.1 p.2∧markT p.1 p.2=markT t a:=⟨(t,a),hs,h,rfl⟩
 simp only[mCode]
 rw[dif_pos hex]
 obtain⟨h1,h2,h3⟩:=hex.choose_spec
 have hss:SameS t hex.choose.1:=hs.symm.trans h1
 obtain⟨q1,q2,q3⟩:=mark_inj hss h h2 h3.symm
 unfold blX
 rw[q1,q2,q3,hss.ch,hss.ha,hss.fi]
abbrev MemM(t0:DTrap):=Mem (mCode t0)
def noG(t:DTrap):DTrap:= {t with groups:=[]}
theorem noG_ok {t:DTrap}(h:DoorOk t):DoorOk (noG t) where
 ch:=h.ch
 tu:=h.tu
 ha:=h.ha
 gl:=h.gl
 ol:=by simp[noG]
 gates:=h.gates
 groups:=fun g hg=>by simp[noG]at hg
theorem codeG_range {t:DTrap}(h:DoorOk t):0≤codeG t∧codeG t+1≤256:=by
 have hgl:=h.gl
 have htu:=h.tu
 have: ∀(l:List Int) (n:Int) (k:Nat),(∀x∈l,0≤x∧x<2)→0≤n∧n+1≤8*((2^k:Nat):Int)→0≤l.foldl (fun n x=>n*2+x) n∧l.foldl (fun n x=>n*2+x) n+1≤8*((2^(k+l.length):Nat):Int):=by
  intro l
  induction l with
  |nil=>intro n k _ hn;exact hn
  |cons g l ih=>
    intro n k hx hn
    have e:(2:Nat)^(k+1)=2*2^k:=by rw[Nat.pow_succ,Nat.mul_comm]
    have hg:=hx g (by simp)
    have:=ih (n*2+g) (k+1) (fun y hy=>hx y (by simp[hy])) (by rw[e];omega)
    rw[List.foldl_cons,List.length_cons,show k+(l.length+1)=k+1+l.length by omega]
    exact this
 have h1:=this (t.gates.map opD) t.turns 0 (fun x hx=>by
  obtain⟨g,hg,rfl⟩:=List.mem_map.1 hx
  unfold opD
  split<;>omega) (by simp;omega)
 have h2:=pow2_le (k:=0+(t.gates.map opD).length) (by simp;omega)
 unfold codeG
 omega
abbrev mkFr(t:DTrap)(d:Nat):Ab.Loc:=[(32, .cell (dV t)),(160, .tok t.gates.length),(1160, .tok t.groups.length),(80, .cell [i64 t.chambers,i64 t.turns,i64 t.hands, .sl (.own d 160) 3 (es cGate t.gates), .sl .full 2 []])]
theorem markS_range {N:Nat}(hN:N≤4) {n:Int} {B:Nat}(S:List Int)(hn:0≤n∧n+1≤B):0≤markS N n S∧markS N n S+1≤((B*16:Nat):Int):=by
 have key: ∀k,k≤N→0≤(List.range k).foldl (fun(n:Int) c=>n*2+bitC S (c:Nat)) n∧(List.range k).foldl (fun(n:Int) c=>n*2+bitC S (c:Nat)) n+1≤((B*2^k:Nat):Int):=by
  intro k
  induction k with
  |zero=>intro _;simpa using hn
  |succ k ih=>
    intro hk
    have ih:=ih (by omega)
    rw[List.range_succ,List.foldl_append]
    simp only[List.foldl_cons,List.foldl_nil]
    have hb:=bitC_range S (k:Nat)
    have e:B*2^(k+1)=2*(B*2^k):=by rw[Nat.pow_succ,←Nat.mul_assoc,Nat.mul_comm]
    rw[e]
    omega
 have h1:=key N (Nat.le_refl _)
 have h2:B*2^N≤B*16:=Nat.mul_le_mul_left _ (Nat.pow_le_pow_right (n:=2) (by decide) hN)
 unfold markS
 omega
set_option maxHeartbeats 4000000 in
theorem mark_l1(t:DTrap)(h:DoorOk t)(A:List (List Int))(i:Nat)(hi:i<A.length)(hA:A.length≤3)(S:List Int)(hS:A[i]=S)(hSl:S.length≤1000)(n:Int)(B:Nat)(hB:B≤1048576)(hn:0≤n∧n+1≤B)(s:Stk):
 Run T b52l1 [(1, .sl .no 1 (es cInts A)),(2, .ptr s.length 32 0),(6,i64 n),(7,i64 (i:Nat)),(8,i64 0)] (mkFr t s.length::s)=
  some (.exit 2,[(1, .sl .no 1 (es cInts A)),(2, .ptr s.length 32 0),(6,i64 (markS t.chambers.toNat n S)),(7,i64 (i:Nat)),(8,i64 t.chambers),(23, .bool false)],mkFr t s.length::s):=by
 have hch:=h.ch
 unfold markS
 refine loop_fold (T:=Go.Proofs.YtbcjofkfgpbhmaaGreat.T) (live:=[1,2,6,7,8]) (keep:=[32,80,160,208,1160,2160,3160,4160,5160,6160,7160,8160]) (b:=d52l1) (List.range t.chambers.toNat) (fun k (n:Int)=>k≤4∧0≤n∧n+1≤((B*2^k:Nat):Int)) (fun(n:Int) c=>n*2+bitC S (c:Nat))
  (fun k n=>[(1, .sl .no 1 (es cInts A)),(2, .ptr s.length 32 0),(6,i64 n),(7,i64 (i:Nat)),(8,i64 (k:Nat))]) (fun _ _=>mkFr t s.length::s)
  (fun n=>(.exit 2,[(1, .sl .no 1 (es cInts A)),(2, .ptr s.length 32 0),(6,i64 n),(7,i64 (i:Nat)),(8,i64 t.chambers),(23, .bool false)],mkFr t s.length::s))
  (by simp) ?_ ?_ ?_ n ⟨by omega,by simpa using hn⟩ _ _ (by simp) (by simp)
 ·intro k n hk hI
  simp only[List.length_range]at hk
  simp only[List.getElem_range]
  have hk2:(k:Int)<t.chambers:=by omega
  have hi2:(i:Int)<A.length:=by omega
  have hp:B*2^k≤1048576*16:=Nat.le_trans (Nat.mul_le_mul_left _ (Nat.pow_le_pow_right (n:=2) (by decide) hI.1)) (Nat.mul_le_mul_right _ hB)
  have w1:IntKind.i64.wrap (n*2)=n*2:=wi _ (by omega) (by omega)
  have w2:IntKind.i64.wrap (n*2+1)=n*2+1:=wi _ (by omega) (by omega)
  have hin:=fun lab s=>e_In S (k:Nat) (by omega) lab s
  unfold bitC
  cases hb:anyB (fun x=>decide (x=((k:Nat):Int))) S<;>rw[hb]at hin
  ·simp (maxSteps:=1000000) (disch:=first|omega|assumption|decide +kernel|(simp;done)|(simp;omega)|fail) [run_drawnK,orSlow_none,hk2,hi,hi2,hS,hin,w1,wk k (by omega)]
  ·simp (maxSteps:=1000000) (disch:=first|omega|assumption|decide +kernel|(simp;done)|(simp;omega)|fail) [run_drawnK,orSlow_none,hk2,hi,hi2,hS,hin,w1,w2,wk k (by omega)]
 ·intro k n hk hI
  simp only[List.length_range]at hk
  simp only[List.getElem_range]
  have hb:=bitC_range S (k:Nat)
  have e:B*2^(k+1)=2*(B*2^k):=by rw[Nat.pow_succ,←Nat.mul_assoc,Nat.mul_comm]
  rw[e]
  omega
 ·intro n hI
  have e:((t.chambers.toNat:Nat):Int)=t.chambers:=by omega
  simp only[List.length_range,e]
  simp
set_option maxHeartbeats 4000000 in
theorem e_mark(t:DTrap)(h:DoorOk t)(A:List (List Int))(hA:A.length≤3)(hS: ∀S∈A,S.length≤1000)(lab s):den T 52 [.agg (dV t), .sl .no 1 (es cInts A)] lab s=some (i64 (markT t A),s):=by
 have hch:=h.ch
 have hcp:=fun lab loc s k0 k1=>e_CopyD t (doorB_short (doorB_iff.2 h)) lab loc s k0 k1
 have hcd:=fun lab s=>e_code (noG t) (noG_ok h) lab s
 have ec:codeT (noG t)=codeG t:=rfl
 rw[ec]at hcd
 have hcg:=codeG_range h
 have p16: ∀k,k≤3→256*16^k≤1048576:=fun k hk=>by
  have:=Nat.pow_le_pow_right (n:=16) (by decide) hk
  omega
 have key:=loop_fold (T:=Go.Proofs.YtbcjofkfgpbhmaaGreat.T) (live:=[1,2,6,7]) (keep:=[32,80,160,208,1160,2160,3160,4160,5160,6160,7160,8160]) (b:=d52l0) A (fun k (n:Int)=>k≤3∧0≤n∧n+1≤((256*16^k:Nat):Int)) (markS t.chambers.toNat)
  (fun k n=>[(1, .sl .no 1 (es cInts A)),(2, .ptr s.length 32 0),(6,i64 n),(7,i64 (k:Nat))]) (fun _ _=>mkFr t s.length::s)
  (fun n=>(.exit 0,[(1, .sl .no 1 (es cInts A)),(2, .ptr s.length 32 0),(6,i64 n),(7,i64 A.length),(17, .bool false)],mkFr t s.length::s))
  (by simp) ?_ ?_ ?_ (codeG t) ⟨by omega,by simp;omega⟩ [(1, .sl .no 1 (es cInts A)),(2, .ptr s.length 32 0),(6,i64 (codeG t)),(7,i64 0)] (mkFr t s.length::s) (by simp) (by simp)
 ·change Run T b52l0 _ _=_ at key
  unfold markT
  simp only[mkFr]at key
  have dn:dV (noG t)=[i64 t.chambers,i64 t.turns,i64 t.hands, .sl .no 3 (es cGate t.gates), .sl .no 2 []]:=rfl
  rw[dn]at hcd
  generalize A.foldl (markS t.chambers.toNat) (codeG t)=w at*
  generalize codeG t=c0 at*
  rw[den_fn t52 _ _ _ rfl]
  simp only[b52]
  simp (maxSteps:=1000000) (disch:=first|omega|assumption|decide +kernel|(simp;done)|(simp;omega)|fail) [run_drawnK,orSlow_none,hcp,hcd,key]
 ·intro k n hk hI
  have hk2:(k:Int)<A.length:=by omega
  have hl1:=mark_l1 t h A k hk hA A[k] rfl (hS _ (List.getElem_mem hk)) n (256*16^k) (p16 k (by omega)) hI.2 s
  generalize hx:A[k]=S at*
  generalize markS t.chambers.toNat n S=m at*
  simp only[mkFr]at hl1
  simp (maxSteps:=1000000) (disch:=first|omega|assumption|decide +kernel|(simp;done)|(simp;omega)|fail) [run_drawnK,orSlow_none,mkFr,hk,hk2,hl1,wk k (by omega)]
 ·intro k n hk hI
  have:=markS_range (N:=t.chambers.toNat) (by omega) (n:=n) (B:=256*16^k) A[k] hI.2
  rw[show 256*16^(k+1)=256*16^k*16 by rw[Nat.pow_succ];omega]
  exact⟨by omega,this⟩
 ·intro n hI
  simp
end Go.Proofs.YtbcjofkfgpbhmaaGreat

/-
  Doors, the reference: blind.
-/
namespace Go.Proofs.YtbcjofkfgpbhmaaGreat
open Go.Ab
def BlindRD(t0:DTrap)(k:Nat)(f:DTrap→List (List Int)→MemM t0→MemM t0):Prop:= ∀ {dm lm L:Nat} {S:List (List Int×Int)→Stk},MapD dm lm L S→
 ∀(t:DTrap) (A:List (List Int)),SameS t0 t→DoorOk t→t.turns=(k:Nat)→AtOk t A→ ∀(K:MemM t0) (lab:Nat),den T 30 [.agg (dV t), .sl .no 1 (es cInts A), .mp (.ptr dm lm 0)] lab (S K.1)=some (i64 (blX t k A),S (f t A K).1)
theorem at_len {t:DTrap}(h:DoorOk t) {A:List (List Int)}(hA:AtOk t A):A.length≤3∧ ∀S∈A,S.length≤1000:=by
 have hol:=h.ol
 have hch:=h.ch
 refine⟨by rw[hA.len];exact hol,fun S hS=> ?_⟩
 have:=pair_lenL (lo:=0) (n:=t.chambers.toNat) (hA.s S hS) (fun x hx=>by have:=hA.r S hS x hx;omega)
 omega
def caughtM(t:DTrap)(A:List (List Int))(a:Int)(i:Nat):Int:=match t.groups[i]? with
 |some g=>if A.getD i []=[t.chambers-1]then a+g.fish else a
 |none=>a
theorem caughtM_fold {t:DTrap}(h:DoorOk t) {A:List (List Int)}(hA:AtOk t A):(List.range t.groups.length).foldl (caughtM t A) 0=blX t 0 A:=by
 have hch:=h.ch
 have key: ∀(gs:List DGroup) (A:List (List Int)) (a:Int),gs.length=A.length→
  (List.range gs.length).foldl (fun a i=>match gs[i]? with|some g=>if A.getD i []=[t.chambers-1]then a+g.fish else a|none=>a) a=a+caughtB t.chambers.toNat (gs.map (·.fish)) A:=by
  intro gs
  induction gs with
  |nil=>intro A a hl;cases A<;>simp[caughtB]
  |cons g gs ih=>
    intro A a hl
    cases A with
    |nil=>simp at hl
    |cons S A=>
      rw[List.length_cons,List.range_succ_eq_map,List.foldl_cons,List.foldl_map]
      simp only[List.getElem?_cons_zero,List.getD_cons_zero,List.getElem?_cons_succ,List.getD_cons_succ,List.map_cons,caughtB]
      rw[ih A _ (by simpa using hl)]
      have e:[t.chambers-1]=[(t.chambers.toNat:Int)-1]:=by rw[show(t.chambers.toNat:Int)=t.chambers by omega]
      rw[e]
      by_cases c:S=[(t.chambers.toNat:Int)-1]
      ·rw[if_pos c,if_pos c];omega
      ·rw[if_neg c,if_neg c];omega
 have:=key t.groups A 0 hA.len.symm
 rw[Int.zero_add]at this
 exact this
theorem caughtM_bound {t:DTrap}(h:DoorOk t)(A:List (List Int))(a:Int)(k:Nat)(ha:0≤a∧a≤99*k):0≤caughtM t A a k∧caughtM t A a k≤99*((k+1:Nat):Int):=by
 unfold caughtM
 split
 ·rename_i g hg
  have:=(h.groups g (List.mem_of_getElem? hg)).2
  split<;>omega
 ·omega
set_option maxHeartbeats 8000000 in
theorem blr_l0(t:DTrap)(h:DoorOk t)(A:List (List Int))(hA:AtOk t A)(s:Stk):
 Run T b30l0 [(1, .sl .no 1 (es cInts A)),(3, .ptr s.length 48 0),(10,i64 0),(11,i64 0)] ([(48, .cell (dV t))]::s)=
  some (.exit 0,[(1, .sl .no 1 (es cInts A)),(3, .ptr s.length 48 0),(10,i64 (blX t 0 A)),(11,i64 t.groups.length),(36, .bool false)],[(48, .cell (dV t))]::s):=by
 have hol:=h.ol
 have hch:=h.ch
 obtain⟨hA3,hAl⟩:=at_len h hA
 rw[←caughtM_fold h hA]
 refine loop_fold (T:=Go.Proofs.YtbcjofkfgpbhmaaGreat.T) (live:=[1,3,10,11]) (keep:=[48,240,320,928,1120,1328,1344,1360,1456,1504]) (b:=d30l0) (List.range t.groups.length) (fun k (a:Int)=>0≤a∧a≤99*k) (caughtM t A)
  (fun k a=>[(1, .sl .no 1 (es cInts A)),(3, .ptr s.length 48 0),(10,i64 a),(11,i64 (k:Nat))]) (fun _ _=>[(48, .cell (dV t))]::s)
  (fun a=>(.exit 0,[(1, .sl .no 1 (es cInts A)),(3, .ptr s.length 48 0),(10,i64 a),(11,i64 t.groups.length),(36, .bool false)],[(48, .cell (dV t))]::s))
  (by simp) ?_ ?_ ?_ 0 (by simp) _ _ (by simp) (by simp)
 ·intro k a hk hi
  simp only[List.length_range]at hk
  simp only[List.getElem_range]
  have hk2:(k:Int)<t.groups.length:=by omega
  have hkA:k<A.length:=by rw[hA.len];exact hk
  have hkA2:(k:Int)<A.length:=by omega
  have hF:=(h.groups _ (List.getElem_mem hk)).2
  have w1:IntKind.i64.wrap (t.chambers-1)=t.chambers-1:=wi _ (by omega) (by omega)
  have hSl:=hAl _ (List.getElem_mem hkA)
  have hg:A.getD k []=A[k]:=by simp[List.getD,hkA]
  have hsa:=fun lab s=>e_Same2 A[k] [t.chambers-1] (by omega) (by simp) lab s
  unfold caughtM
  rw[List.getElem?_eq_getElem hk,hg]
  have e1:es cInt [t.chambers-1]=[[i64 (t.chambers-1)]]:=rfl
  rw[e1]at hsa
  generalize hG:t.groups[k]=G at*
  generalize hx:A[k]=S at*
  have w2:IntKind.i64.wrap (a+G.fish)=a+G.fish:=wi _ (by omega) (by omega)
  by_cases c:S=[t.chambers-1]
  ·rw[decide_eq_true c]at hsa
   simp only[if_pos c]
   clear c
   simp (maxSteps:=1000000) (disch:=first|omega|assumption|decide +kernel|(simp;done)|(simp;omega)|fail) [run_drawnK,orSlow_none,hk,hk2,hkA,hkA2,hG,hx,w1,w2,hsa,wk k (by omega)]
  ·rw[decide_eq_false c]at hsa
   simp only[if_neg c]
   clear c
   simp (maxSteps:=1000000) (disch:=first|omega|assumption|decide +kernel|(simp;done)|(simp;omega)|fail) [run_drawnK,orSlow_none,hk,hk2,hkA,hkA2,hG,hx,w1,w2,hsa,wk k (by omega)]
 ·intro k a hk hi
  simp only[List.length_range]at hk
  simp only[List.getElem_range]
  exact caughtM_bound h _ a k hi
 ·intro a hi
  simp
set_option maxHeartbeats 8000000 in
theorem blr_l2(t u:DTrap)(hu:DoorOk u)(A:List (List Int))(hA3:A.length≤3)(hAl: ∀S∈A,S.length≤1000)(m7 best:V)(hm7: ∃x,m7=i64 x)(hb: ∃x,best=i64 x)(LC:List (List Int))(j:Nat)(dm lm:Nat)(s:Stk)(h1: ¬dm=s.length):
 Run T b30l2 [(16, .sl (.own s.length 257) 1 []),(1, .sl .no 1 (es cInts A)),(2, .mp (.ptr dm lm 0)),(3, .ptr s.length 48 0),(7,m7),(12,best),(13, .sl .no 1 (es cInts LC)),(14,i64 (j:Nat)),(15, .ptr s.length 240 0),(16, .sl .full 1 []),(17,i64 0)] ([(48, .cell (dV t)),(240, .cell (dV u)),(257, .tok 0)]::s)=
  some (.exit 4,[(1, .sl .no 1 (es cInts A)),(2, .mp (.ptr dm lm 0)),(3, .ptr s.length 48 0),(7,m7),(12,best),(13, .sl .no 1 (es cInts LC)),(14,i64 (j:Nat)),(15, .ptr s.length 240 0),(16, .sl (.own s.length 257) 1 (es cInts (A.map (reachS u.chambers.toNat u.gates)))),(17,i64 A.length),(74, .bool false)],[(48, .cell (dV t)),(240, .cell (dV u)),(257, .tok A.length)]::s):=by
 obtain⟨m7,rfl⟩:=hm7
 obtain⟨best,rfl⟩:=hb
 have key:=loop_fold (T:=Go.Proofs.YtbcjofkfgpbhmaaGreat.T) (live:=[1,2,3,7,12,13,14,15,16,17]) (keep:=[48,240,257,320,736,752,928,1120,1456,1504]) (b:=d30l2) A (fun k (a:List (List Int))=>a.length=k) (fun(a:List (List Int)) S=>a ++[reachS u.chambers.toNat u.gates S])
  (fun k a=>[(1, .sl .no 1 (es cInts A)),(2, .mp (.ptr dm lm 0)),(3, .ptr s.length 48 0),(7,i64 m7),(12,i64 best),(13, .sl .no 1 (es cInts LC)),(14,i64 (j:Nat)),(15, .ptr s.length 240 0),(16, .sl (.own s.length 257) 1 (es cInts a)),(17,i64 (k:Nat))]) (fun _ a=>[(48, .cell (dV t)),(240, .cell (dV u)),(257, .tok a.length)]::s)
  (fun a=>(.exit 4,[(1, .sl .no 1 (es cInts A)),(2, .mp (.ptr dm lm 0)),(3, .ptr s.length 48 0),(7,i64 m7),(12,i64 best),(13, .sl .no 1 (es cInts LC)),(14,i64 (j:Nat)),(15, .ptr s.length 240 0),(16, .sl (.own s.length 257) 1 (es cInts a)),(17,i64 A.length),(74, .bool false)],[(48, .cell (dV t)),(240, .cell (dV u)),(257, .tok a.length)]::s))
  (by simp) ?_ ?_ ?_ [] rfl [(16, .sl (.own s.length 257) 1 []),(1, .sl .no 1 (es cInts A)),(2, .mp (.ptr dm lm 0)),(3, .ptr s.length 48 0),(7,i64 m7),(12,i64 best),(13, .sl .no 1 (es cInts LC)),(14,i64 (j:Nat)),(15, .ptr s.length 240 0),(16, .sl .full 1 []),(17,i64 0)] ([(48, .cell (dV t)),(240, .cell (dV u)),(257, .tok 0)]::s) (by simp[h1]) (by simp)
 ·rw[foldl_snoc (fun S=>reachS u.chambers.toNat u.gates S),List.nil_append]at key
  simp only[List.length_map]at key
  exact key
 ·intro k a hk hi
  have hk2:(k:Int)<A.length:=by omega
  have hre:=fun lab s=>e_reached u hu A[k] (hAl _ (List.getElem_mem hk)) lab s
  generalize hx:A[k]=S at*
  generalize reachS u.chambers.toNat u.gates S=R at*
  have e0:es cInts a ++[[.sl .no 1 (es cInt R)]]=es cInts (a ++[R]):=by simp[es]
  simp (maxSteps:=1000000) (disch:=first|omega|assumption|decide +kernel|(simp;done)|(simp;omega)|fail) [run_drawnK,orSlow_none,hk,hk2,hx,h1,hre,e0,appK_own1,appD_own1,wk k (by omega)]
 ·intro k a hk hi
  simp[hi]
 ·intro a hi
  simp[h1]
end Go.Proofs.YtbcjofkfgpbhmaaGreat

/-
  Doors, the reference: blind, the whole; Blind.
-/
namespace Go.Proofs.YtbcjofkfgpbhmaaGreat
open Go.Ab
def turnC(t:DTrap)(c:List Int)(k:Nat):DTrap:=turningT (changedT t c) (k:Nat)
noncomputable def blRK(t0:DTrap):Nat→DTrap→List (List Int)→MemM t0→MemM t0
 |0,_,_,K=>K
 |k+1,t,A,K=>if (kvGet K.1 [markT t A]).isSome=true then K else((choicesS t.hands.toNat t.gates.length).foldl (fun K c=>blRK t0 k (turnC t c k) (A.map (reachS t.chambers.toNat (flipG t.gates c))) K) K).put [markT t A]
theorem blX_succ(t:DTrap)(k:Nat)(A:List (List Int)):blX t (k+1) A=((choicesS t.hands.toNat t.gates.length).map fun c=>blX (turnC t c k) k (A.map (reachS t.chambers.toNat (flipG t.gates c)))).foldl max 0:=by
 rw[maxL_fold _ _ (by omega),Int.max_eq_right (maxL_nonneg _)]
 rfl
theorem blX_range {t:DTrap}(h:DoorOk t)(k:Nat)(A:List (List Int)):0≤blX t k A∧blX t k A≤297:=
 ⟨blindS_nonneg (fish_pos h) _ _ _,Int.le_trans (blindS_le (fish_pos h) _ _ _) (sum_fish h)⟩
theorem turnC_ok {t:DTrap}(h:DoorOk t)(c:List Int) {k:Nat}(hk:k≤4):DoorOk (turnC t c k) where
 ch:=h.ch
 tu:=by simp only[turnC,turningT];omega
 ha:=h.ha
 gl:=(changed_ok h c).gl
 ol:=h.ol
 gates:=(changed_ok h c).gates
 groups:=h.groups
theorem turnC_same {t0 t:DTrap}(hs:SameS t0 t)(c:List Int)(k:Nat):SameS t0 (turnC t c k):=(changed_same hs c).trans (turning_same _ _)
theorem at_reach {t:DTrap} {A:List (List Int)}(hA:AtOk t A)(c:List Int)(k:Nat):AtOk (turnC t c k) (A.map (reachS t.chambers.toNat (flipG t.gates c))) where
 len:=by simpa [turnC,turningT,changedT]using hA.len
 s:=fun S hS=>by
  obtain⟨X,_,rfl⟩:=List.mem_map.1 hS
  exact reach_sorted _ _ _
 r:=fun S hS x hx=>by
  obtain⟨X,_,rfl⟩:=List.mem_map.1 hS
  exact(mem_reachS.1 hx).1
set_option maxHeartbeats 16000000 in
theorem e_blindR(t0:DTrap)(k:Nat):k≤4→BlindRD t0 k (blRK t0 k):=by
 induction k with
 |zero=>
   intro _ dm lm L S G t A hs h hT hA K lab
   have hL:=G.len
   have hd:=G.ltm
   have e1: ¬dm=L:=by omega
   have hme:=G.mem
   obtain⟨hA3,hAl⟩:=at_len h hA
   have hmk:=fun lab s=>e_mark t h A hA3 hAl lab s
   have hl0:=blr_l0 t h A hA (S K.1)
   have hwc:=mCode_eq hs hA
   have hTn:t.turns.toNat=0:=by omega
   rw[hTn]at hwc
   have hr: ∀v,kvGet K.1 [markT t A]=some v→v=blX t 0 A:=fun v hv=>by rw[←hwc];exact K.2 _ _ hv
   have hT0:(t.turns=0)=True:=by simp[hT]
   simp only[blRK]
   rw[hL]at hl0
   generalize blX t 0 A=w at*
   generalize markT t A=cd at*
   cases hv:kvGet K.1 [cd]with
   |some v=>
     obtain rfl:=hr v hv
     rw[den_fn t30 _ _ _ rfl]
     simp only[b30]
     simp (maxSteps:=1000000) (disch:=first|omega|assumption|decide +kernel|(simp;done)|(simp;omega)|fail) [run_drawnK,orSlow_none,hL,hme,e1,hmk,hv]
   |none=>
     rw[den_fn t30 _ _ _ rfl]
     simp only[b30]
     simp (maxSteps:=1000000) (disch:=first|omega|assumption|decide +kernel|(simp;done)|(simp;omega)|fail) [run_drawnK,orSlow_none,hL,hme,e1,hmk,hv,hT0,hl0]
 |succ k ih0=>
   intro hk dm lm L S G t A hs h hT hA K lab
   have ih:= @ih0 (by omega)
   have hL:=G.len
   have hd:=G.ltm
   have e1: ¬dm=L:=by omega
   have hme:=G.mem
   have hpu:=G.put
   obtain⟨hA3,hAl⟩:=at_len h hA
   have hT0:(t.turns=0)=False:=by simp;omega
   have hmk:=fun lab s=>e_mark t h A hA3 hAl lab s
   have hch:=fun lab s=>e_ChoicesOf t h lab s
   have hwc:=mCode_eq hs hA
   have hTn:t.turns.toNat=k+1:=by omega
   rw[hTn]at hwc
   have hws:=blX_succ t k A
   have hshort:=doorB_short (doorB_iff.2 h)
   have hlenC:(choicesS t.hands.toNat t.gates.length).length≤32:=by
    have h1:=(chB_len h).2.2
    have h2:(chB t).length=(choicesS t.hands.toNat t.gates.length).length:=by simp[chB,natI,changesB]
    omega
   have hmc: ∀c∈choicesS t.hands.toNat t.gates.length,c.length<1000000000000∧(∀y∈c,0≤y∧y<t.gates.length)∧c.Pairwise (· < ·):=fun c hc=>by
    obtain⟨q1,q2,q3⟩:=mem_choices.1 hc
    have:=h.ha
    exact⟨by omega,q3,q2⟩
   have hbr:=fun c=>blX_range (turnC_ok h c (k:=k) (by omega)) k (A.map (reachS t.chambers.toNat (flipG t.gates c)))
   simp only[blRK]
   generalize hLC:choicesS t.hands.toNat t.gates.length=LC at*
   have key:=loop_fold (T:=Go.Proofs.YtbcjofkfgpbhmaaGreat.T) (live:=[1,2,3,7,12,13,14]) (keep:=[48,320,736,752,928]) (b:=d30l1) LC (fun _ (a:Int×MemM t0)=>0≤a.1∧a.1≤297)
    (fun a c=>(max a.1 (blX (turnC t c k) k (A.map (reachS t.chambers.toNat (flipG t.gates c)))),blRK t0 k (turnC t c k) (A.map (reachS t.chambers.toNat (flipG t.gates c))) a.2))
    (fun j a=>[(1, .sl .no 1 (es cInts A)),(2, .mp (.ptr dm lm 0)),(3, .ptr L 48 0),(7,i64 (markT t A)),(12,i64 a.1),(13, .sl .no 1 (es cInts LC)),(14,i64 (j:Nat))]) (fun _ a=>[(48, .cell (dV t))]::S a.2.1)
    (fun a=>(.exit 2,[(1, .sl .no 1 (es cInts A)),(2, .mp (.ptr dm lm 0)),(3, .ptr L 48 0),(7,i64 (markT t A)),(12,i64 a.1),(13, .sl .no 1 (es cInts LC)),(14,i64 LC.length),(62, .bool false)],[(48, .cell (dV t))]::S a.2.1))
    (by simp) ?_ ?_ ?_ (0,K) (by simp) [(1, .sl .no 1 (es cInts A)),(2, .mp (.ptr dm lm 0)),(3, .ptr L 48 0),(7,i64 (markT t A)),(12,i64 0),(13, .sl .no 1 (es cInts LC)),(14,i64 0)] ([(48, .cell (dV t))]::S K.1) (by simp[hL,e1]) (by simp[hL])
   ·rw[fold_pairC (fun a c=>max a (blX (turnC t c k) k (A.map (reachS t.chambers.toNat (flipG t.gates c))))) (fun(K:MemM t0) c=>blRK t0 k (turnC t c k) (A.map (reachS t.chambers.toNat (flipG t.gates c))) K),←List.foldl_map (f:=fun c=>blX (turnC t c k) k (A.map (reachS t.chambers.toNat (flipG t.gates c)))) (g:=max),←hws]at key
    change Run Go.Proofs.YtbcjofkfgpbhmaaGreat.T b30l1 _ _=_ at key
    have hr: ∀v,kvGet K.1 [markT t A]=some v→v=blX t (k+1) A:=fun v hv=>by rw[←hwc];exact K.2 _ _ hv
    generalize List.foldl _ K LC=K' at*
    have hput:(K'.put [markT t A]).1=kvPut K'.1 [markT t A] (blX t (k+1) A):=by
     show kvPut _ _ (mCode t0 [markT t A])=_
     rw[hwc]
    clear hws hbr ih ih0
    generalize blX t (k+1) A=w at*
    generalize markT t A=cd at*
    cases hv:kvGet K.1 [cd]with
    |some v=>
      obtain rfl:=hr v hv
      rw[den_fn t30 _ _ _ rfl]
      simp only[b30]
      simp (maxSteps:=1000000) (disch:=first|omega|assumption|decide +kernel|(simp;done)|(simp;omega)|fail) [run_drawnK,orSlow_none,hL,hme,hpu,e1,hmk,hv]
    |none=>
      simp only[Option.isSome_none,Bool.false_eq_true,if_false,hput]
      rw[den_fn t30 _ _ _ rfl]
      simp only[b30]
      simp (maxSteps:=1000000) (disch:=first|omega|assumption|decide +kernel|(simp;done)|(simp;omega)|fail) [run_drawnK,orSlow_none,hL,hme,hpu,e1,hmk,hv,hT0,hch,key]
   ·intro j a hj hi
    obtain⟨a,K2⟩:=a
    have hj2:(j:Int)<LC.length:=by omega
    obtain⟨m1,m2,m3⟩:=hmc _ (List.getElem_mem hj)
    have hcg:=fun lab s=>e_Changed t hshort LC[j] m1 m2 m3 lab s
    have hu:=changed_ok h LC[j]
    have hl2:=blr_l2 t (changedT t LC[j]) hu A hA3 hAl (i64 (markT t A)) (i64 a) ⟨_,rfl⟩ ⟨_,rfl⟩ LC j dm lm (S K2.1) (by rw[hL];exact e1)
    change Run T _ _ _=some (_,[_,_,_,_,_,_,_,_,(16, .sl _ 1 (es cInts (A.map (reachS t.chambers.toNat (flipG t.gates LC[j]))))),_,_],_)at hl2
    have htn:=fun lab s=>e_Turning (changedT t LC[j]) (doorB_short (doorB_iff.2 hu)) (k:Nat) lab s
    change∀lab s,_=some (V.agg (dV (turnC t LC[j] k)),s)at htn
    have hbl:=fun lab=>ih (G.push [[(48, .cell (dV t)),(240, .cell (dV (changedT t LC[j]))),(257, .tok A.length)]]) (turnC t LC[j] k) (A.map (reachS t.chambers.toNat (flipG t.gates LC[j]))) (turnC_same hs _ _) (turnC_ok h _ (by omega)) rfl (at_reach hA _ _) K2 lab
    have hbr1:=hbr LC[j]
    have hut:(changedT t LC[j]).turns=t.turns:=rfl
    have w1:IntKind.i64.wrap ((changedT t LC[j]).turns-1)=(k:Nat):=by rw[hut,wi _ (by omega) (by omega)];omega
    clear hut
    simp only at hi⊢
    simp only[List.cons_append,List.nil_append]at hbl
    rw[hL]at hl2
    clear hws hbr ih ih0 hmc
    generalize blX (turnC t LC[j] k) k (A.map (reachS t.chambers.toNat (flipG t.gates LC[j])))=w at*
    generalize blRK t0 k (turnC t LC[j] k) (A.map (reachS t.chambers.toNat (flipG t.gates LC[j]))) K2=K3 at*
    generalize turnC t LC[j] k=u3 at*
    generalize A.map (reachS t.chambers.toNat (flipG t.gates LC[j]))=A2 at*
    generalize changedT t LC[j]=u at*
    generalize hc1:LC[j]=c1 at*
    generalize markT t A=cd at*
    simp (maxSteps:=1000000) (disch:=first|omega|assumption|decide +kernel|(simp;done)|(simp;omega)|fail) [run_drawnK,orSlow_none,hj,hj2,hc1,hL,e1,hcg,hl2,htn,w1,hbl,wk j (by omega)]
   ·intro j a hj hi
    have:=hbr LC[j]
    simp only
    omega
   ·intro a hi
    simp
set_option maxHeartbeats 8000000 in
theorem e_BlindR(t:DTrap)(hs:ShortD t)(lab s):den T 10 [.agg (dV t)] lab s=some (.tup [i64 (blindR t).1,i64 (blindR t).2],s):=by
 have hc:=fun lab s=>e_CheckR t hs lab s
 unfold blindR
 cases hd:doorB t<;>simp only[hd,Bool.false_eq_true,if_false,if_true]at hc
 ·rw[den_fn t10 _ _ _ rfl]
  simp only[b10]
  simp (maxSteps:=1000000) (disch:=first|omega|assumption|decide +kernel|(simp;done)|(simp;omega)|fail) [hc]
 have h:=doorB_iff.1 hd
 have hol:=h.ol
 have hch:=h.ch
 have htu:=h.tu
 have key:=loop_fold (T:=Go.Proofs.YtbcjofkfgpbhmaaGreat.T) (live:=[1,5,6]) (keep:=[16,81,128,496,512]) (b:=d10l0) t.groups (fun k (a:List (List Int))=>a.length=k) (fun(a:List (List Int)) (g:DGroup)=>a ++[[g.pos]])
  (fun k a=>[(1, .ptr s.length 16 0),(5, .sl (.own s.length 81) 1 (es cInts a)),(6,i64 (k:Nat))]) (fun _ a=>[(16, .cell (dV t)),(81, .tok a.length)]::s)
  (fun a=>(.exit 0,[(1, .ptr s.length 16 0),(5, .sl (.own s.length 81) 1 (es cInts a)),(6,i64 t.groups.length),(16, .bool false)],[(16, .cell (dV t)),(81, .tok a.length)]::s))
  (by simp) ?_ ?_ ?_ [] rfl [(5, .sl (.own s.length 81) 1 []),(1, .ptr s.length 16 0),(5, .sl .full 1 []),(6,i64 0)] ([(16, .cell (dV t)),(81, .tok 0)]::s) (by simp) (by simp)
 ·rw[foldl_snoc (fun g:DGroup=>[g.pos]),List.nil_append]at key
  change Run T b10l0 _ _=_ at key
  have e:t.groups.map (fun g=>[g.pos])=singles (posL t):=by simp[singles,posL,Function.comp_def]
  rw[e]at key
  have hA:AtOk t (singles (posL t)):=⟨by simp[singles,posL],fun S hS=>by
   obtain⟨p,_,rfl⟩:=List.mem_map.1 hS
   exact List.pairwise_singleton _ _,fun S hS x hx=>by
   obtain⟨p,hp,rfl⟩:=List.mem_map.1 hS
   simp only[List.mem_singleton]at hx
   subst hx
   obtain⟨g,hg,rfl⟩:=List.mem_map.1 hp
   have:=(h.groups g hg).1
   omega⟩
  have hk:t.turns=((t.turns.toNat:Nat):Int):=by omega
  have hb:=fun lab=> @e_blindR t t.turns.toNat (by omega) _ _ _ _ (MapD.top (s:=s) (lm:=496) (X:=fun K=>[(16, .cell (dV t)),(81, .tok (singles (posL t)).length),(496, .mp none K)]) (fun K=>rfl) (fun K K'=>rfl)) t (singles (posL t)) (SameS.rfl' t) h hk hA Mem.nil lab
  simp only[Mem.nil_val]at hb
  have ew:blX t t.turns.toNat (singles (posL t))=blindT t t.turns.toNat:=rfl
  rw[ew]at hb
  clear hA e
  generalize blindT t t.turns.toNat=w at*
  generalize blRK t _ t _ Mem.nil=K' at*
  generalize singles (posL t)=A at*
  rw[den_fn t10 _ _ _ rfl]
  simp only[b10]
  simp (maxSteps:=1000000) (disch:=first|omega|assumption|decide +kernel|(simp;done)|(simp;omega)|fail) [hc,key,hb]
 ·intro k a hk hi
  have hk2:(k:Int)<t.groups.length:=by omega
  generalize hG:t.groups[k]=G at*
  have e0:es cInts a ++[[.sl .full 1 [[i64 G.pos]]]]=es cInts (a ++[[G.pos]])∨True:= .inr trivial
  have e1:es cInts a ++[[.sl .no 1 [[i64 G.pos]]]]=es cInts (a ++[[G.pos]]):=by simp[es]
  simp (maxSteps:=1000000) (disch:=first|omega|assumption|decide +kernel|(simp;done)|(simp;omega)|fail) [run_drawnK,orSlow_none,hk,hk2,hG,e1,appK_own1,wk k (by omega)]
 ·intro k a hk hi
  simp[hi]
 ·intro a hi
  simp
end Go.Proofs.YtbcjofkfgpbhmaaGreat

/-
  DoorsCatch: its equation.
-/
namespace Go.Proofs.YtbcjofkfgpbhmaaGreat
open Go.Ab
set_option maxHeartbeats 8000000 in
theorem e_DoorsCatch(t:DTrap)(hs:ShortD t)(group:Int)(lab s):den T 3 [.agg (dV t),i64 group] lab s=some (.bool true,s):=by
 have hfa:=fun lab s=>e_Far t hs lab s
 have hwo:=fun lab s=>e_worksD lab s
 cases hf:farD t<;>rw[hf]at hfa
 rotate_left
 ·rw[den_fn t3 _ _ _ rfl]
  simp only[b3]
  simp (maxSteps:=1000000) (disch:=first|omega|assumption|decide +kernel|(simp;done)|(simp;omega)|fail) [hfa,hwo]
 have hb:t.gates.length≤40∧t.groups.length≤40:=by
  simp only[farD,hugeB,Bool.or_eq_false_iff,decide_eq_false_iff_not]at hf;omega
 have hcp:=fun lab loc s k0 k1=>e_CopyD t hs lab loc s k0 k1
 have h1:=fun lab s=>e_Catch t hs group lab s
 have h2:=fun lab s=>e_CatchR t hs group lab s
 have h3:=fun lab s=>e_Blind t hs lab s
 have h4:=fun lab s=>e_BlindR t hs lab s
 have hsd:=fun lab s=>e_SameD t hb.1 hb.2 lab s
 generalize catchR t group=A at*
 generalize blindR t=B at*
 rw[den_fn t3 _ _ _ rfl]
 simp only[b3]
 simp (maxSteps:=1000000) (disch:=first|omega|assumption|decide +kernel|(simp;done)|(simp;omega)|fail) [run_drawnK,orSlow_none,hfa,hwo,hcp,h1,h2,h3,h4,hsd]
end Go.Proofs.YtbcjofkfgpbhmaaGreat

/-
  What the arguments of the laws of doors read as.
-/
namespace Go.Proofs.YtbcjofkfgpbhmaaGreat
open Go.Ab
set_option maxRecDepth 100000
theorem cells68:Tryz.prog.cellsOf 68=3:=by kernel_rfl
theorem cells53:Tryz.prog.cellsOf 53=2:=by kernel_rfl
variable {B : TypeId → Nat → Prop} {n : Nat} {vs : List V}
theorem fit_int(h:Fit Tryz.prog B (n+1) 3 vs): ∃x,vs=[i64 x]:=by
 simp only[Fit,Tryz.underlying3]at h
 exact h
theorem fit_bool(h:Fit Tryz.prog B (n+1) 4 vs): ∃x,vs=[.bool x]:=by
 simp only[Fit,Tryz.underlying4]at h
 exact h
theorem es_all {α:Type} {f:α→List V}(l:List (List V))(h: ∀x∈l,∃y,x=f y): ∃l':List α,l=es f l':=by
 obtain⟨l',h1,_⟩:=es_of (Q:=fun _=>True) l fun x hx=>by obtain⟨y,hy⟩:=h x hx;exact⟨y,hy,trivial⟩
 exact⟨l',h1⟩
theorem fit_gate(h:Fit Tryz.prog B (n+2) 68 vs): ∃g:DGate,vs=cGate g:=by
 rw[Fit,Tryz.underlying68]at h
 simp only[FitF]at h
 obtain⟨_,_,rfl,h0,_,_,rfl,h1,_,_,rfl,h2,rfl⟩:=h
 obtain⟨a,rfl⟩:=fit_int h0
 obtain⟨b,rfl⟩:=fit_int h1
 obtain⟨c,rfl⟩:=fit_bool h2
 exact⟨⟨a,b,c⟩,rfl⟩
theorem fit_group(h:Fit Tryz.prog B (n+2) 53 vs): ∃g:DGroup,vs=cGroup g:=by
 rw[Fit,Tryz.underlying53]at h
 simp only[FitF]at h
 obtain⟨_,_,rfl,h0,_,_,rfl,h1,rfl⟩:=h
 obtain⟨a,rfl⟩:=fit_int h0
 obtain⟨b,rfl⟩:=fit_int h1
 exact⟨⟨a,b⟩,rfl⟩
theorem fit_gates(h:Fit Tryz.prog B (n+3) 22 vs): ∃l:List DGate,vs=[.sl .no 3 (es cGate l)]∧B 68 l.length:=by
 rw[Fit,Tryz.underlying22]at h
 simp only at h
 obtain⟨l,rfl,hb,h⟩:=h
 obtain⟨l',rfl⟩:=es_all (f:=cGate) l fun x hx=>fit_gate (h x hx)
 rw[cells68]
 exact⟨l',rfl,by simpa using hb⟩
theorem fit_groups(h:Fit Tryz.prog B (n+3) 23 vs): ∃l:List DGroup,vs=[.sl .no 2 (es cGroup l)]∧B 53 l.length:=by
 rw[Fit,Tryz.underlying23]at h
 simp only at h
 obtain⟨l,rfl,hb,h⟩:=h
 obtain⟨l',rfl⟩:=es_all (f:=cGroup) l fun x hx=>fit_group (h x hx)
 rw[cells53]
 exact⟨l',rfl,by simpa using hb⟩
def Reach(e:TypeId)(k:Nat):Prop:=k≤maxLen∧k*Tryz.prog.bytesOf e≤reachBytes
theorem bytes68:Tryz.prog.bytesOf 68=24:=by kernel_rfl
theorem bytes53:Tryz.prog.bytesOf 53=16:=by kernel_rfl
theorem fit_trap(h:Fit Tryz.prog Reach (n+4) 25 vs): ∃t:DTrap,vs=dV t∧ShortD t:=by
 rw[Fit,Tryz.underlying25]at h
 simp only[FitF]at h
 obtain⟨_,_,rfl,h0,_,_,rfl,h1,_,_,rfl,h2,_,_,rfl,h3,_,_,rfl,h4,rfl⟩:=h
 obtain⟨a,rfl⟩:=fit_int h0
 obtain⟨b,rfl⟩:=fit_int h1
 obtain⟨c,rfl⟩:=fit_int h2
 obtain⟨d,rfl,q1⟩:=fit_gates h3
 obtain⟨e,rfl,q2⟩:=fit_groups h4
 simp only[Reach,bytes68,bytes53,reachBytes]at q1 q2
 exact⟨⟨a,b,c,d,e⟩,rfl,by simp only;omega,by simp only;omega⟩
end Go.Proofs.YtbcjofkfgpbhmaaGreat

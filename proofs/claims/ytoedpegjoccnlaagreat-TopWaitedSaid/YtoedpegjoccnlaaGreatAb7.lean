/-
  The evaluator's equations, continued: ends of functions, loops' heads, regions that draw; loops; encodings of typed data.
-/
import Derived.Test.YtoedpegjoccnlaaGreatAb6
import Derived.SizedLaws
set_option linter.unusedSimpArgs false
set_option linter.unusedVariables false
namespace Go.Ab
section
variable {T : Tab}
def resK(own:Bool)(loc:Loc)(lab:Nat)(s:Stk):Option (List V)→Option (V×Stk)
 |some vs=>adopt own loc (pack vs) lab s
 |none=>none
@[simp] theorem resK_some(own loc lab s vs):resK own loc lab s (some vs)=adopt own loc (pack vs) lab s:=rfl
def finK(own:Bool)(res:List ARes)(lab:Nat):Res→Option (V×Stk)
 |some (.ret,e,loc::s)=>resK own loc lab s (results e (loc::s) res)
 |some (.normal,e,loc::s)=>resK own loc lab s (results e (loc::s) res)
 |_=>none
@[simp] theorem finK_ret(own res lab e loc s):finK own res lab (some (.ret,e,loc::s))=resK own loc lab s (results e (loc::s) res):=rfl
@[simp] theorem finK_normal(own res lab e loc s):finK own res lab (some (.normal,e,loc::s))=resK own loc lab s (results e (loc::s) res):=rfl
@[simp] theorem finK_ite(own res lab)(p:Prop) [Decidable p](x y):finK own res lab (if p then x else y)=if p then finK own res lab x else finK own res lab y:=by split<;>rfl
theorem den_fn {f:FuncId} {np:Nat} {res:List ARes} {body:AC} {own:Bool}(h:T.fns f=some (.code ⟨np,res,body,own⟩))(args lab s)(hl:args.length=np):den T f args lab s=finK own res lab (Run T body (argEnv 0 args) ([]::s)):=by
 rw[den_code h,if_pos hl]
 dsimp only
 cases Run T body (argEnv 0 args) ([]::s)with
 |none=>rfl
 |some q=>
   obtain⟨ex,e,s1⟩:=q
   cases ex<;>cases s1<;>simp only[finK,resK]<;>cases results e _ res<;>rfl
def cellV(k:Option Nat)(off:Nat):Option Entry→Option V
 |some (.cell cs)=>part k cs off
 |_=>none
@[simp] theorem cellV_cell(k off cs):cellV k off (some (.cell cs))=part k cs off:=rfl
def ptrV(k:Option Nat)(s:Stk):V→Option V
 | .ptr d l off=>cellV k off (sget s d l)
 |_=>none
@[simp] theorem ptrV_ptr(k s d l off):ptrV k s (.ptr d l off)=cellV k off (sget s d l):=rfl
def consO:Option V→Option (List V)→Option (List V)
 |some v,some vs=>some (v::vs)
 |_,_=>none
@[simp] theorem consO_some(v vs):consO (some v) (some vs)=some (v::vs):=rfl
@[simp] theorem results_nil(e s):results e s []=some []:=rfl
@[simp] theorem results_t(e s n rs):results e s (.t n::rs)=consO (some (e.get n)) (results e s rs):=by simp only[results];cases results e s rs<;>rfl
@[simp] theorem results_cell(e s n k rs):results e s (.cell n k::rs)=consO (ptrV k s (e.get n)) (results e s rs):=by
 simp only[results]
 cases e.get n<;>rfl
@[simp] theorem pack_one(v):pack [v]=v:=rfl
@[simp] theorem pack_two(a b r):pack (a::b::r)= .tup (a::b::r):=rfl
@[simp] theorem pack_nil:pack []= .tup []:=rfl
attribute [simp] V.refs V.refsAll
@[simp] theorem capRefs_no(d):Cap.refs d .no=[]:=rfl
@[simp] theorem capRefs_full(d):Cap.refs d .full=[]:=rfl
@[simp] theorem capRefs_own(d d' l):Cap.refs d (.own d' l)=if d'=d then [l] else []:=rfl
def adK(own:Bool)(loc:Loc)(r:V)(lab:Nat)(s:Stk):List Nat→Option (V×Stk)
 |[]=>some (r.map (renR own s.length loc [] (dep s) lab),s)
 |l::ls=>let more:=fun ls:List Nat=>dedup (ls ++ls.flatMap fun l=>match loc.get l with
   |some x=>x.refs own s.length
   |_=>[])
   let es:=more (more (l::ls))
   match es with
   |[]=>some (r.map (renR own s.length loc [] (dep s) lab),s)
   |es=>if s.isEmpty then none else(adoptAll own s.length es loc lab es s).map fun s'=>(r.map (renR own s.length loc es (dep s) lab),s')
@[simp] theorem adopt_eq(own loc r lab s):adopt own loc r lab s=adK own loc r lab s (r.refs own s.length):=by
 unfold adopt escapes
 cases r.refs own s.length with
 |nil=>rfl
 |cons l ls=>rfl
@[simp] theorem adK_nil(own loc r lab s):adK own loc r lab s []=some (r.map (renR own s.length loc [] (dep s) lab),s):=rfl
section
variable (own : Bool) (d : Nat) (loc : Loc) (ls : List Nat) (d' lab : Nat)
@[simp] theorem renR_p(a l o):(renR own d loc ls d' lab).p a l o=if a=d then(if ls.contains l then .ptr d' (newLab lab l ls) o else .undef) else .ptr a l o:=rfl
@[simp] theorem renR_c(c):(renR own d loc ls d' lab).c c=if own then c.ren own d ls d' lab else .no:=rfl
@[simp] theorem renR_y(a l):(renR own d loc ls d' lab).y a l=if a=d then .undef else .yld a l:=rfl
@[simp] theorem renR_e(a l q i j):(renR own d loc ls d' lab).e a l q i j=if a=d then .undef else .eptr a l q i j:=rfl
@[simp] theorem renR_a_own(a l z n o k):(renR true d loc ls d' lab).a a l z n o k=if a=d then(if ls.contains l then .asl d' (newLab lab l ls) z n o k else .undef) else .asl a l z n o k:=rfl
def freezeV(z n o k:Nat):Option Entry→V
 |some (.arr sz es)=>if z=sz∧n=es.length∧o+k≤es.length∧elemsOk (es.map V.stripAll) sz=true then .sl .no sz (((es.map V.stripAll).drop o).take k)else .undef
 |_=> .undef
@[simp] theorem freezeV_arr(z n o k sz es):freezeV z n o k (some (.arr sz es))=if z=sz∧n=es.length∧o+k≤es.length∧elemsOk (es.map V.stripAll) sz=true then .sl .no sz (((es.map V.stripAll).drop o).take k) else .undef:=rfl
@[simp] theorem renR_a_no(a l z n o k):(renR false d loc ls d' lab).a a l z n o k=if a=d then freezeV z n o k (loc.get l) else .asl a l z n o k:=by
 simp only[renR,freezeV];split
 ·cases loc.get l<;>rfl
 ·rfl
variable (keep : List Nat)
@[simp] theorem dropR_p(a l o):(dropR d keep).p a l o=if a=d∧l∉keep then .undef else .ptr a l o:=rfl
@[simp] theorem dropR_c(c):(dropR d keep).c c=c.drop d keep:=rfl
@[simp] theorem dropR_y(a l):(dropR d keep).y a l=if a=d∧l∉keep then .undef else .yld a l:=rfl
@[simp] theorem dropR_a(a l z n o k):(dropR d keep).a a l z n o k=if a=d∧l∉keep then .undef else .asl a l z n o k:=rfl
@[simp] theorem dropR_e(a l q i j):(dropR d keep).e a l q i j=if a=d∧l∉keep then .undef else .eptr a l q i j:=rfl
end
@[simp] theorem envRen_nil(r):Env.ren r []=[]:=rfl
@[simp] theorem envRen_cons(r k v e):Env.ren r ((k,v)::e)=(k,v.map r)::Env.ren r e:=rfl
@[simp] theorem locRen_nil(r):Loc.ren r []=[]:=rfl
@[simp] theorem locRen_cons(r k x l):Loc.ren r ((k,x)::l)=(k,x.map r)::Loc.ren r l:=rfl
@[simp] theorem entMap_cell(r cs):Entry.map r (.cell cs)= .cell (V.mapAll r cs):=rfl
@[simp] theorem entMap_tok(r n):Entry.map r (.tok n)= .tok n:=rfl
@[simp] theorem entMap_arr(r z es):Entry.map r (.arr z es)= .arr z (es.map (V.mapAll r)):=rfl
@[simp] theorem entMap_mp(r t kvs):Entry.map r (.mp t kvs)= .mp t kvs:=rfl
@[simp] theorem entMap_harr(r lo z es):Entry.map r (.harr lo z es)= .harr lo z es:=rfl
@[simp] theorem entMap_loop(r ps a b env o p):Entry.map r (.loop ps a b env o p)= .loop ps a b (Env.ren r env) o p:=rfl
@[simp] theorem gcEnv_eq(live keep e loc r):gcEnv live keep e (loc::r)=Env.ren (dropR r.length keep) (Env.only live e):=by simp[gcEnv]
@[simp] theorem gcStk_eq(keep loc r):gcStk keep (loc::r)=loc.gc r.length keep::r:=rfl
@[simp] theorem locGc_eq(d keep loc):Loc.gc d keep loc=Loc.ren (dropR d keep) (loc.filter fun x=>keep.contains x.1):=rfl
def thawK(t l sz:Nat)(e:Env)(s:Stk):V→Res
 | .sl .full z es=>if 100≤sz then
  (if es=[]∧(sget s (dep s) l).isNone∧s≠[]then some (.normal,(t, .asl (dep s) l (sz-100) 0 0 0)::e,sput s (dep s) l (.arr (sz-100) []))else none)
   else if (z=sz∨es=[])∧(sget s (dep s) l).isNone∧s≠[]then some (.normal,(t, .sl (.own (dep s) l) sz es)::e,sput s (dep s) l (.tok es.length))else none
 | .sl (.own _ _) _ _=>some (.normal,e,s)
 | .asl _ _ _ _ _ _=>some (.normal,e,s)
 |_=>none
@[simp] theorem thawK_asl(t l sz e s d k z n o len):thawK t l sz e s (.asl d k z n o len)=some (.normal,e,s):=rfl
@[simp] theorem run_thawK(t l z e s):Run T (.thaw t l z) e s=thawK t l z e s (e.get t):=by rw[run_eq];rfl
@[simp] theorem thawK_full(t l sz e loc r z es):thawK t l sz e (loc::r) (.sl .full z es)=if 100≤sz then(if es=[]∧(Loc.get loc l).isNone then some (.normal,(t, .asl r.length l (sz-100) 0 0 0)::e,loc.put l (.arr (sz-100) [])::r) else none) else if (z=sz∨es=[])∧(Loc.get loc l).isNone then some (.normal,(t, .sl (.own r.length l) sz es)::e,loc.put l (.tok es.length)::r) else none:=by simp[thawK]
@[simp] theorem thawK_own(t l sz e s d k z es):thawK t l sz e s (.sl (.own d k) z es)=some (.normal,e,s):=rfl
def thawV(d k l o sz:Nat)(cs:List V)(e:Env)(s:Stk):Option V→Res
 |some (.sl .full z es)=>if 100≤sz then
  (if es=[]∧d=dep s∧(sget s (dep s) l).isNone∧s≠[]∧k≠l then
    some (.normal,e,sput (sput s d k (.cell (cs.set o (.asl (dep s) l (sz-100) 0 0 0)))) (dep s) l (.arr (sz-100) []))else none)
   else if (z=sz∨es=[])∧d=dep s∧(sget s (dep s) l).isNone∧s≠[]∧k≠l then
    some (.normal,e,sput (sput s d k (.cell (cs.set o (.sl (.own (dep s) l) sz es)))) (dep s) l (.tok es.length))else none
 |some (.sl (.own _ _) _ _)=>some (.normal,e,s)
 |some (.asl _ _ _ _ _ _)=>some (.normal,e,s)
 |_=>none
@[simp] theorem thawV_asl(d k l o sz cs e s d' k' z n o' len):thawV d k l o sz cs e s (some (.asl d' k' z n o' len))=some (.normal,e,s):=rfl
@[simp] theorem thawV_full(d k l o sz cs e loc r z es):thawV d k l o sz cs e (loc::r) (some (.sl .full z es))=if 100≤sz then
 (if es=[]∧d=r.length∧(Loc.get loc l).isNone∧k≠l then
   some (.normal,e,sput (sput (loc::r) d k (.cell (cs.set o (.asl r.length l (sz-100) 0 0 0)))) r.length l (.arr (sz-100) []))else none)
 else if (z=sz∨es=[])∧d=r.length∧(Loc.get loc l).isNone∧k≠l then
  some (.normal,e,sput (sput (loc::r) d k (.cell (cs.set o (.sl (.own r.length l) sz es)))) r.length l (.tok es.length))else none:=by simp[thawV]
@[simp] theorem thawV_own(d k l o sz cs e s d' k' z es):thawV d k l o sz cs e s (some (.sl (.own d' k') z es))=some (.normal,e,s):=rfl
def thawC(d k l o sz:Nat)(e:Env)(s:Stk):Option Entry→Res
 |some (.cell cs)=>thawV d k l o sz cs e s cs[o]?
 |_=>none
@[simp] theorem thawC_cell(d k l o sz e s cs):thawC d k l o sz e s (some (.cell cs))=thawV d k l o sz cs e s cs[o]? :=rfl
def thawP(off l sz:Nat)(e:Env)(s:Stk):V→Res
 | .ptr d k o=>thawC d k l (o+off) sz e s (sget s d k)
 |_=>none
@[simp] theorem thawP_ptr(off l sz e s d k o):thawP off l sz e s (.ptr d k o)=thawC d k l (o+off) sz e s (sget s d k):=rfl
@[simp] theorem run_thawcK(t o l z e s):Run T (.thawc t o l z) e s=thawP o l z e s (e.get t):=by
 rw[run_eq]
 simp only[step,thawc,thawP]
 cases e.get t<;>rfl
@[simp] theorem run_freezeK(ls e s):Run T (.freeze ls) e s=some (.normal,(frzAll ls e s).1,(frzAll ls e s).2):=by rw[run_eq];rfl
attribute [simp] frzAll
def frzE(l:Nat)(e:Env)(loc:Loc)(r:Stk):Option Entry→Env×Stk
 |some (.arr sz es)=>if elemsOk (es.map V.stripAll) sz then(Env.ren (frzR r.length l sz (es.map V.stripAll)) e,Loc.put (Loc.ren (frzR r.length l sz (es.map V.stripAll)) loc) l (.tok es.length)::r)else(e,loc::r)
 |_=>(e,loc::r)
def growsE(l:Nat)(e:Env)(loc:Loc)(r:Stk):Option Entry→Env×Stk
 |some (.arr sz es)=>if elemsOk (es.map V.stripAll) sz=true∧es≠[]then(e,Loc.put loc l (.harr es.length sz (es.map V.stripAll))::r)else(e,loc::r)
 |_=>(e,loc::r)
@[simp] theorem growsE_arr(l e loc r sz es):growsE l e loc r (some (.arr sz es))=if elemsOk (es.map V.stripAll) sz=true∧es≠[] then(e,Loc.put loc l (.harr es.length sz (es.map V.stripAll))::r) else(e,loc::r):=rfl
@[simp] theorem growsE_none(l e loc r):growsE l e loc r none=(e,loc::r):=rfl
@[simp] theorem frz1_eq(l e loc r):frz1 l e (loc::r)=if 1000000≤l then growsE (l-1000000) e loc r (loc.get (l-1000000)) else frzE l e loc r (loc.get l):=by
 simp only[frz1,frzE,grows,growsE]
 split
 ·cases Loc.get loc (l-1000000)with
  |none=>rfl
  |some x=>cases x<;>rfl
 ·cases Loc.get loc l with
  |none=>rfl
  |some x=>cases x<;>rfl
@[simp] theorem frzE_arr(l e loc r sz es):frzE l e loc r (some (.arr sz es))=if elemsOk (es.map V.stripAll) sz then(Env.ren (frzR r.length l sz (es.map V.stripAll)) e,Loc.put (Loc.ren (frzR r.length l sz (es.map V.stripAll)) loc) l (.tok es.length)::r) else(e,loc::r):=rfl
@[simp] theorem frzE_none(l e loc r):frzE l e loc r none=(e,loc::r):=rfl
section
variable (d l sz : Nat) (es : List (List V))
@[simp] theorem frzR_p:(frzR d l sz es).p=V.ptr:=rfl
@[simp] theorem frzR_c(c):(frzR d l sz es).c c=c:=rfl
@[simp] theorem frzR_y:(frzR d l sz es).y=V.yld:=rfl
@[simp] theorem frzR_a(d' l' z n o k):(frzR d l sz es).a d' l' z n o k=if d'=d∧l'=l then(if z=sz∧n=es.length∧o+k≤es.length then .sl (if o=0∧k=es.length then .own d l else .no) sz ((es.drop o).take k) else .undef) else .asl d' l' z n o k:=rfl
@[simp] theorem frzR_e(d' l' q i j):(frzR d l sz es).e d' l' q i j=if d'=d∧l'=l then .undef else .eptr d' l' q i j:=rfl
end
theorem get_ren(r:Ren)(e:Env)(t:Nat):Env.get (Env.ren r e) t=V.map r (Env.get e t):=by
 induction e with
 |nil=>simp
 |cons x e ih=>obtain⟨k,v⟩:=x;simp only[envRen_cons,Env.get,ih];split<;>rfl
def hidden(i t:Nat):List AOper→Bool
 |[]=>false
 |o::os=>(o.dst==some t&& !o.pre.contains i)||hidden i t os
theorem get_setDst(dst:Option Nat)(v:V)(e:Env)(t:Nat):Env.get (setDst dst v e) t=if dst=some t then v else Env.get e t:=by
 cases dst with
 |none=>simp
 |some d=>simp only[setDst,Env.get,Option.some.injEq,eq_comm]
theorem get_dHide(i:Nat)(os:List AOper)(t:Nat): ∀e:Env,Env.get (dHide i os e) t=if hidden i t os then .undef else Env.get e t:=by
 induction os with
 |nil=>intro e;simp[dHide,hidden]
 |cons o os ih=>
   intro e
   by_cases h1:i∈o.pre<;>cases h2:hidden i t os<;>by_cases hd:o.dst=some t<;>simp[dHide,hidden,ih,get_setDst,h1,h2,hd]
def getDid(pre:List Nat)(t:Nat):Nat→List Did→V→V
 |_,[],v=>v
 |j,r::rs,v=>getDid pre t (j+1) rs (if r.dst=some t then(if pre.contains j then r.v else .undef)else v)
theorem get_dEnv(pre:List Nat)(t:Nat)(rs:List Did): ∀(j:Nat) (e:Env),Env.get (dEnv pre j rs e) t=getDid pre t j rs (Env.get e t):=by
 induction rs with
 |nil=>intro j e;rfl
 |cons r rs ih=>intro j e;simp only[dEnv,getDid,ih,get_setDst]
attribute [simp] hidden getDid get_dEnv get_dHide
@[simp] theorem get_dSeen(o os i d rs loc0 e0 t):Env.get (dSeen o os i d rs loc0 e0) t=V.map (dropR d (dSee o rs loc0)) (if hidden i t os then .undef else getDid o.pre t 0 rs (Env.get e0 t)):=by
 rw[dSeen,get_ren,get_dHide,get_dEnv]
def spl(A B:List AOper):List AOper:=A ++B
noncomputable def drawnK(T:Tab)(B:List AOper)(loc:Loc)(rest:Stk)(live:List Nat)(e:Env):Option (List Did)→Res
 |some rs=>onlyK live (runOps T (Run T) B (dEnv (List.range rs.length) 0 rs e) (dLoc (List.range rs.length) 0 rs loc::rest))
 |none=>none
@[simp] theorem drawnK_some(B loc rest live e rs):drawnK T B loc rest live e (some rs)=onlyK live (runOps T (Run T) B (dEnv (List.range rs.length) 0 rs e) (dLoc (List.range rs.length) 0 rs loc::rest)):=rfl
@[simp] theorem drawnK_none(B loc rest live e):drawnK T B loc rest live e none=none:=rfl
@[simp] theorem drawnK_ite(B loc rest live e)(p:Prop) [Decidable p](x y):drawnK T B loc rest live e (if p then x else y)=if p then drawnK T B loc rest live e x else drawnK T B loc rest live e y:=by split<;>rfl
theorem cut_spl {A B:List AOper}(h:((cut 0 (spl A B)).1.length==A.length)=true):cut 0 (spl A B)=(A,B):=by
 have h1:=cut_append (spl A B) 0
 simp only[beq_iff_eq]at h
 have h2:=List.append_inj h1 h
 exact Prod.ext h2.1 h2.2
def eachK:Option (Env×Stk)→Res
 |some (e,s)=>some (.normal,e,s)
 |none=>none
@[simp] theorem eachK_some(e s):eachK (some (e,s))=some (.normal,e,s):=rfl
@[simp] theorem eachK_none:eachK none=none:=rfl
@[simp] theorem eachK_ite(p:Prop) [Decidable p](x y):eachK (if p then x else y)=if p then eachK x else eachK y:=by split<;>rfl
def splOk(A B:List AOper):Bool:=((cut 0 (spl A B)).1.length==A.length)&& !bruteOps (spl A B)
theorem splOk_cut {A B}(h:splOk A B=true):((cut 0 (spl A B)).1.length==A.length)=true:=by simp only[splOk,Bool.and_eq_true]at h;exact h.1
theorem splOk_brute {A B}(h:splOk A B=true): ¬bruteOps (spl A B)=true:=by simp only[splOk,Bool.and_eq_true,Bool.not_eq_true']at h;rw[h.2];decide
theorem run_drawnK(A B live e loc rest)(h:splOk A B=true):Run T (.region true (spl A B) live) e (loc::rest)=drawnK T B loc rest live e (runDrawn T (Run T) loc rest e A 0 []):=by
 rw[run_eq];simp only[step,stepDrawn,cut_spl (splOk_cut h),if_neg (splOk_brute h)]
 cases runDrawn T (Run T) loc rest e A 0 []with
 |none=>rfl
 |some rs=>
   dsimp only[drawnK]
   cases runOps T (Run T) B (dEnv (List.range rs.length) 0 rs e) (dLoc (List.range rs.length) 0 rs loc::rest)<;>rfl
noncomputable def drawG(T:Tab)(o:AOper)(os:List AOper)(i:Nat)(rs:List Did)(loc0:Loc)(rest:Stk)(e0:Env)(see:List Nat):Option (V×Loc)→Option (List Did)
 |some (v,patch)=>if patch.all (fun x=>see.contains x.1||((dLoc o.pre 0 rs loc0).get x.1).isNone)&&dApart o.dst patch o.pre 0 rs then runDrawn T (Run T) loc0 rest e0 os (i+1) (rs ++[⟨o.dst,v,patch,see⟩])else none
 |none=>none
@[simp] theorem drawG_none(o os i rs loc0 rest e0 see):drawG T o os i rs loc0 rest e0 see none=none:=rfl
@[simp] theorem drawG_some(o os i rs loc0 rest e0 see v patch):drawG T o os i rs loc0 rest e0 see (some (v,patch))=if patch.all (fun x=>see.contains x.1||((dLoc o.pre 0 rs loc0).get x.1).isNone)=true∧dApart o.dst patch o.pre 0 rs=true then runDrawn T (Run T) loc0 rest e0 os (i+1) (rs ++[⟨o.dst,v,patch,see⟩]) else none:=by
 simp only[drawG]
 split<;>rename_i h<;>simp only[Bool.and_eq_true]at h
 ·rw[if_pos h]
 ·rw[if_neg h]
@[simp] theorem drawG_ite(o os i rs loc0 rest e0 see)(p:Prop) [Decidable p](x y):drawG T o os i rs loc0 rest e0 see (if p then x else y)=if p then drawG T o os i rs loc0 rest e0 see x else drawG T o os i rs loc0 rest e0 see y:=by split<;>rfl
open Classical in
noncomputable def drawK(T:Tab)(o:AOper)(os:List AOper)(i:Nat)(rs:List Did)(loc0:Loc)(rest:Stk)(e0:Env)(vis:Loc):Option (List Did):=
 if Loc.ren (dropR rest.length (vis.map (·.1))) vis=vis then drawG T o os i rs loc0 rest e0 (vis.map (·.1)) (gop T (Run T) o (dSeen o os i rest.length rs loc0 e0) vis rest)else none
@[congr] theorem drawK_congr {vis vis':Loc}(h:vis=vis')(o os i rs loc0 rest e0):drawK T o os i rs loc0 rest e0 vis=drawK T o os i rs loc0 rest e0 vis':=by rw[h]
open Classical in
@[simp] theorem drawK_eq(o os i rs loc0 rest e0 vis):drawK T o os i rs loc0 rest e0 vis=if Loc.ren (dropR rest.length (vis.map (·.1))) vis=vis then drawG T o os i rs loc0 rest e0 (vis.map (·.1)) (gop T (Run T) o (dSeen o os i rest.length rs loc0 e0) vis rest) else none:=rfl
@[simp] theorem runDrawn_nil(loc0 rest e0 i rs):runDrawn T (Run T) loc0 rest e0 [] i rs=some rs:=rfl
open Classical in
@[simp] theorem isMove_nil(dst op g pre):AOper.isMove ⟨dst,op,g,pre,[]⟩=false:=rfl
@[simp] theorem isMove_guard(dst op g pre hide):AOper.isMove ⟨dst,op,some g,pre,hide⟩=false:=by simp[AOper.isMove]
@[simp] theorem moved_mv(dst x g pre hide e):AOper.moved ⟨dst, .mv x,g,pre,hide⟩ e=x.ev e:=rfl
@[simp] theorem runDrawn_cons(loc0 rest e0 o os i rs):runDrawn T (Run T) loc0 rest e0 (o::os) i rs=if o.isMove=true then(if dApart o.dst [] o.pre 0 rs=true then runDrawn T (Run T) loc0 rest e0 os (i+1) (rs ++[⟨o.dst,o.moved (dHide i os (dEnv o.pre 0 rs e0)),[],[]⟩]) else none) else drawK T o os i rs loc0 rest e0 (dVis o rs loc0):=by
 rw[runDrawn]
 congr 1
@[simp] theorem dVis_eq(o rs loc0):dVis o rs loc0=(dLoc o.pre 0 rs loc0).filter fun x=> !(o.hide ++dHid o.pre 0 rs).contains x.1:=rfl
@[simp] theorem dSee_eq(o rs loc0):dSee o rs loc0=(dVis o rs loc0).map (·.1):=rfl
attribute [simp] dLoc dHid dApart
noncomputable def gopK(T:Tab)(want:Bool)(o:AOper)(e:Env)(vis:Loc)(rest:Stk):V→Option (V×Loc)
 | .bool b=>if b=want then dop T (Run T) o e vis rest else some (.skip,[])
 | .skip=>some (.skip,[])
 |_=>none
@[simp] theorem gopK_bool(want o e vis rest b):gopK T want o e vis rest (.bool b)=if b=want then dop T (Run T) o e vis rest else some (.skip,[]):=rfl
@[simp] theorem gopK_skip(want o e vis rest):gopK T want o e vis rest .skip=some (.skip,[]):=rfl
@[simp] theorem gop_none(dst op pre hide e vis rest):gop T (Run T) ⟨dst,op,none,pre,hide⟩ e vis rest=dop T (Run T) ⟨dst,op,none,pre,hide⟩ e vis rest:=rfl
@[simp] theorem gop_some(dst op g want pre hide e vis rest):gop T (Run T) ⟨dst,op,some (g,want),pre,hide⟩ e vis rest=gopK T want ⟨dst,op,some (g,want),pre,hide⟩ e vis rest (e.get g):=by
 simp only[gop,gopK];cases e.get g<;>rfl
def pureOp:AOp→Bool
 | .box _=>false
 | .alloc _=>false
 | .store _ _ _=>false
 | .app _ _ _ _=>false
 | .appm _ _ _ _=>false
 | .mksl _ _ _ _=>false
 | .mkslD _ _ _ _=>false
 | .litm _ _ _=>false
 | .clear _ _=>false
 | .mkmap _=>false
 | .mput _ _ _ _=>false
 | .ment _ _ _=>false
 | .mest _ _ _=>false
 | .call _ _=>false
 | .callv _ _=>false
 |_=>true
def pureD:Option (V×Stk)→Option (V×Loc)
 |some (v,_)=>some (v,[])
 |none=>none
@[simp] theorem pureD_some(v s):pureD (some (v,s))=some (v,[]):=rfl
@[simp] theorem pureD_none:pureD none=none:=rfl
@[simp] theorem pureD_ite(p:Prop) [Decidable p](x y):pureD (if p then x else y)=if p then pureD x else pureD y:=by split<;>rfl
theorem map_none {α β:Type} {o:Option α} {g:α→β} {v:β} {f:Eff}(h:(o.map fun a=>(g a,(none:Eff)))=some (v,f)):f=none:=by
 cases o with
 |none=>cases h
 |some a=>cases h;rfl
theorem aop_pure {op:AOp}(h:pureOp op=true) {lab e s v f}(ha:aop op lab e s=some (v,f)):f=none:=by
 cases op<;>simp only[pureOp,Bool.false_eq_true]at h<;>simp only[aop]at ha
 all_goals (repeat' (first|(split at ha)|exact map_none ha|(cases ha;rfl)|(cases ha;done)))
theorem dop_pure(dst op g pre hide e vis rest)(h:pureOp op=true):dop T (Run T) ⟨dst,op,g,pre,hide⟩ e vis rest=pureD (op1 T (Run T) ⟨dst,op,g,pre,hide⟩ e (vis::rest)):=by
 have hc:op.callOf= .other:=by cases op<;>simp_all [pureOp,AOp.callOf]
 rw[op1_other hc]
 simp only[dop,hc,AOper.dst]
 cases ha:aop op (16*dst.getD 0) e (vis::rest)with
 |none=>simp
 |some q=>
   obtain⟨v,f⟩:=q
   have:=aop_pure h ha
   subst this
   simp
@[simp] theorem dop_mv(x)(dst g pre hide e vis rest):dop T (Run T) ⟨dst, .mv x,g,pre,hide⟩ e vis rest=pureD (op1 T (Run T) ⟨dst, .mv x,g,pre,hide⟩ e (vis::rest)):=dop_pure _ _ _ _ _ _ _ _ rfl
@[simp] theorem dop_pick(c a b)(dst g pre hide e vis rest):dop T (Run T) ⟨dst, .pick c a b,g,pre,hide⟩ e vis rest=pureD (op1 T (Run T) ⟨dst, .pick c a b,g,pre,hide⟩ e (vis::rest)):=dop_pure _ _ _ _ _ _ _ _ rfl
@[simp] theorem dop_build(z ps)(dst g pre hide e vis rest):dop T (Run T) ⟨dst, .build z ps,g,pre,hide⟩ e vis rest=pureD (op1 T (Run T) ⟨dst, .build z ps,g,pre,hide⟩ e (vis::rest)):=dop_pure _ _ _ _ _ _ _ _ rfl
@[simp] theorem dop_lit(z n ps)(dst g pre hide e vis rest):dop T (Run T) ⟨dst, .lit z n ps,g,pre,hide⟩ e vis rest=pureD (op1 T (Run T) ⟨dst, .lit z n ps,g,pre,hide⟩ e (vis::rest)):=dop_pure _ _ _ _ _ _ _ _ rfl
@[simp] theorem dop_load(n a)(dst g pre hide e vis rest):dop T (Run T) ⟨dst, .load n a,g,pre,hide⟩ e vis rest=pureD (op1 T (Run T) ⟨dst, .load n a,g,pre,hide⟩ e (vis::rest)):=dop_pure _ _ _ _ _ _ _ _ rfl
@[simp] theorem dop_nilck(x)(dst g pre hide e vis rest):dop T (Run T) ⟨dst, .nilck x,g,pre,hide⟩ e vis rest=pureD (op1 T (Run T) ⟨dst, .nilck x,g,pre,hide⟩ e (vis::rest)):=dop_pure _ _ _ _ _ _ _ _ rfl
@[simp] theorem dop_bin(op x y)(dst g pre hide e vis rest):dop T (Run T) ⟨dst, .bin op x y,g,pre,hide⟩ e vis rest=pureD (op1 T (Run T) ⟨dst, .bin op x y,g,pre,hide⟩ e (vis::rest)):=dop_pure _ _ _ _ _ _ _ _ rfl
@[simp] theorem dop_un(op x)(dst g pre hide e vis rest):dop T (Run T) ⟨dst, .un op x,g,pre,hide⟩ e vis rest=pureD (op1 T (Run T) ⟨dst, .un op x,g,pre,hide⟩ e (vis::rest)):=dop_pure _ _ _ _ _ _ _ _ rfl
@[simp] theorem dop_mkfn(f first cap)(dst g pre hide e vis rest):dop T (Run T) ⟨dst, .mkfn f first cap,g,pre,hide⟩ e vis rest=pureD (op1 T (Run T) ⟨dst, .mkfn f first cap,g,pre,hide⟩ e (vis::rest)):=dop_pure _ _ _ _ _ _ _ _ rfl
@[simp] theorem dop_slice(esz x lo hi mx)(dst g pre hide e vis rest):dop T (Run T) ⟨dst, .slice esz x lo hi mx,g,pre,hide⟩ e vis rest=pureD (op1 T (Run T) ⟨dst, .slice esz x lo hi mx,g,pre,hide⟩ e (vis::rest)):=dop_pure _ _ _ _ _ _ _ _ rfl
@[simp] theorem dop_faddr(off x)(dst g pre hide e vis rest):dop T (Run T) ⟨dst, .faddr off x,g,pre,hide⟩ e vis rest=pureD (op1 T (Run T) ⟨dst, .faddr off x,g,pre,hide⟩ e (vis::rest)):=dop_pure _ _ _ _ _ _ _ _ rfl
@[simp] theorem dop_idxs(esz x i)(dst g pre hide e vis rest):dop T (Run T) ⟨dst, .idxs esz x i,g,pre,hide⟩ e vis rest=pureD (op1 T (Run T) ⟨dst, .idxs esz x i,g,pre,hide⟩ e (vis::rest)):=dop_pure _ _ _ _ _ _ _ _ rfl
@[simp] theorem dop_idxa(len esz x i)(dst g pre hide e vis rest):dop T (Run T) ⟨dst, .idxa len esz x i,g,pre,hide⟩ e vis rest=pureD (op1 T (Run T) ⟨dst, .idxa len esz x i,g,pre,hide⟩ e (vis::rest)):=dop_pure _ _ _ _ _ _ _ _ rfl
@[simp] theorem dop_ext(x i)(dst g pre hide e vis rest):dop T (Run T) ⟨dst, .ext x i,g,pre,hide⟩ e vis rest=pureD (op1 T (Run T) ⟨dst, .ext x i,g,pre,hide⟩ e (vis::rest)):=dop_pure _ _ _ _ _ _ _ _ rfl
@[simp] theorem dop_len(x)(dst g pre hide e vis rest):dop T (Run T) ⟨dst, .len x,g,pre,hide⟩ e vis rest=pureD (op1 T (Run T) ⟨dst, .len x,g,pre,hide⟩ e (vis::rest)):=dop_pure _ _ _ _ _ _ _ _ rfl
@[simp] theorem dop_eqa(ks neg x y)(dst g pre hide e vis rest):dop T (Run T) ⟨dst, .eqa ks neg x y,g,pre,hide⟩ e vis rest=pureD (op1 T (Run T) ⟨dst, .eqa ks neg x y,g,pre,hide⟩ e (vis::rest)):=dop_pure _ _ _ _ _ _ _ _ rfl
@[simp] theorem dop_slarr(n x hi)(dst g pre hide e vis rest):dop T (Run T) ⟨dst, .slarr n x hi,g,pre,hide⟩ e vis rest=pureD (op1 T (Run T) ⟨dst, .slarr n x hi,g,pre,hide⟩ e (vis::rest)):=dop_pure _ _ _ _ _ _ _ _ rfl
@[simp] theorem dop_mm(mx x y)(dst g pre hide e vis rest):dop T (Run T) ⟨dst, .mm mx x y,g,pre,hide⟩ e vis rest=pureD (op1 T (Run T) ⟨dst, .mm mx x y,g,pre,hide⟩ e (vis::rest)):=dop_pure _ _ _ _ _ _ _ _ rfl
@[simp] theorem dop_mm3(mx x y z)(dst g pre hide e vis rest):dop T (Run T) ⟨dst, .mm3 mx x y z,g,pre,hide⟩ e vis rest=pureD (op1 T (Run T) ⟨dst, .mm3 mx x y z,g,pre,hide⟩ e (vis::rest)):=dop_pure _ _ _ _ _ _ _ _ rfl
def effD(d:Nat):Option (V×Eff)→Option (V×Loc)
 |some (v,none)=>some (v,[])
 |some (v,some (d',l,x))=>if d'=d then some (v,[(l,x)])else none
 |none=>none
theorem effD_eq {dst:Option Nat} {op:AOp}(h:op.callOf= .other)(g pre hide e vis)(rest:Stk):dop T (Run T) ⟨dst,op,g,pre,hide⟩ e vis rest=effD rest.length (aop op (16*dst.getD 0) e (vis::rest)):=by
 simp only[dop,h]
 cases aop op (16*dst.getD 0) e (vis::rest)with
 |none=>rfl
 |some q=>obtain⟨v,f⟩:=q;cases f<;>rfl
@[simp] theorem effD_put(d v l x):effD d (some (v,some (d,l,x)))=some (v,[(l,x)]):=by simp[effD]
@[simp] theorem effD_pure(d v):effD d (some (v,none))=some (v,[]):=rfl
@[simp] theorem effD_none(d):effD d none=none:=rfl
@[simp] theorem effD_ite(d)(p:Prop) [Decidable p](x y):effD d (if p then x else y)=if p then effD d x else effD d y:=by split<;>rfl
@[simp] theorem dop_box(d x g pre hide e vis)(rest:Stk):dop T (Run T) ⟨some d, .box x,g,pre,hide⟩ e vis rest=if (x.ev e).isDef∧(vis.get (16*d)).isNone then some (.ptr rest.length (16*d) 0,[(16*d, .cell (x.ev e).cells)]) else none:=by
 rw[effD_eq rfl]
 simp[aop]
@[simp] theorem dop_alloc(d z g pre hide e vis)(rest:Stk):dop T (Run T) ⟨some d, .alloc z,g,pre,hide⟩ e vis rest=if (vis.get (16*d)).isNone then some (.ptr rest.length (16*d) 0,[(16*d, .cell z)]) else none:=by
 rw[effD_eq rfl]
 simp[aop]
def stD(n off l:Nat)(v:V):Option Entry→Option (V×Loc)
 |some (.cell cs)=>if v.cells.length=n∧off+n≤cs.length∧V.oneAll v.cells then some (.undef,[(l, .cell (setAll cs off v.cells))])else none
 |_=>none
@[simp] theorem stD_cell(n off l v cs):stD n off l v (some (.cell cs))=if v.cells.length=n∧off+n≤cs.length∧V.oneAll v.cells then some (.undef,[(l, .cell (setAll cs off v.cells))]) else none:=rfl
def stDR(n j l i z:Nat)(v:V)(es:List (List V)):Option (List V)→Option (V×Loc)
 |some cs=>if v.cells.length=n∧j+n≤cs.length∧V.oneAll v.cells then some (.undef,[(l, .arr z (es.set i (setAll cs j v.cells)))])else none
 |none=>none
@[simp] theorem stDR_some(n j l i z v es cs):stDR n j l i z v es (some cs)=if v.cells.length=n∧j+n≤cs.length∧V.oneAll v.cells then some (.undef,[(l, .arr z (es.set i (setAll cs j v.cells)))]) else none:=rfl
def stDE(n l q i j:Nat)(v:V):Option Entry→Option (V×Loc)
 |some (.arr z es)=>if q=es.length then stDR n j l i z v es es[i]? else none
 |_=>none
@[simp] theorem stDE_arr(n l q i j v z es):stDE n l q i j v (some (.arr z es))=if q=es.length then stDR n j l i z v es es[i]? else none:=rfl
def storeD(n:Nat)(v:V)(vis:Loc)(rest:Stk):V→Option (V×Loc)
 | .ptr d l off=>if d=rest.length then stD n off l v (vis.get l)else none
 | .eptr d l q i j=>if d=rest.length then stDE n l q i j v (vis.get l)else none
 |_=>none
@[simp] theorem storeD_ptr(n v vis rest d l off):storeD n v vis rest (.ptr d l off)=if d=rest.length then stD n off l v (vis.get l) else none:=rfl
@[simp] theorem storeD_eptr(n v vis rest d l q i j):storeD n v vis rest (.eptr d l q i j)=if d=rest.length then stDE n l q i j v (vis.get l) else none:=rfl
@[simp] theorem dop_store(dst n a v g pre hide e vis)(rest:Stk):dop T (Run T) ⟨dst, .store n a v,g,pre,hide⟩ e vis rest=storeD n (v.ev e) vis rest (a.ev e):=by
 simp only[dop,AOp.callOf,aop,storeD]
 cases a.ev e<;>try rfl
 ·rename_i d l off
  dsimp only
  by_cases hd:d=rest.length
  ·subst hd
   simp only[sget_top,dep_cons,if_true,stD]
   cases Loc.get vis l<;>try rfl
   rename_i x;cases x<;>try rfl
   dsimp only
   split<;>rename_i h<;>split at h<;>simp_all
  ·simp only[hd,if_false,dep_cons]
   cases sget (vis::rest) d l<;>try rfl
   rename_i x;cases x<;>try rfl
   dsimp only
   cases (v.ev e).down d<;>try rfl
   dsimp only
   split<;>rename_i h<;>split at h<;>simp_all
 ·rename_i d l q i j
  dsimp only
  by_cases hd:d=rest.length
  ·subst hd
   simp only[sget_top,dep_cons,if_true,stDE,stDR]
   cases Loc.get vis l<;>try rfl
   rename_i x;cases x<;>try rfl
   rename_i z es
   dsimp only
   by_cases hqe:q=es.length
   case neg=>simp only[hqe,if_false]
   simp only[hqe,if_true]
   cases es[i]? <;>try rfl
   dsimp only
   split<;>rename_i h<;>split at h<;>simp_all
  ·simp only[hd,if_false,dep_cons]
   cases sget (vis::rest) d l<;>try rfl
   rename_i x;cases x<;>try rfl
   rename_i z es
   dsimp only
   by_cases hqe:q=es.length
   case neg=>simp only[hqe,if_false]
   simp only[hqe,if_true]
   cases es[i]? <;>try rfl
   dsimp only
   cases (v.ev e).down d<;>try rfl
   dsimp only
   split<;>rename_i h<;>split at h<;>simp_all
open Classical in
noncomputable def newK(vis:Loc)(rest:Stk):Option (V×Stk)→Option (V×Loc)
 |some (v,s')=>if s'=(vis ++(s'.headD []).drop vis.length)::rest∧distinct ((vis ++(s'.headD []).drop vis.length).map (·.1))=true then some (v,(s'.headD []).drop vis.length)else none
 |none=>none
open Classical in
@[simp] theorem newK_some(vis rest v loc s'):newK vis rest (some (v,loc::s'))=if (loc=vis ++loc.drop vis.length∧s'=rest)∧distinct ((vis ++loc.drop vis.length).map (·.1))=true then some (v,loc.drop vis.length) else none:=by simp[newK]
@[simp] theorem newK_none(vis rest):newK vis rest none=none:=rfl
@[simp] theorem newK_ite(vis rest)(p:Prop) [Decidable p](x y):newK vis rest (if p then x else y)=if p then newK vis rest x else newK vis rest y:=by split<;>rfl
@[simp] theorem dop_call(d f args g pre hide e vis)(rest:Stk):dop T (Run T) ⟨some d, .call f args,g,pre,hide⟩ e vis rest=newK vis rest (den T f (V.stripAll (opdAll e args)) (16*d) (vis::rest)):=by
 simp only[dop,AOp.callOf,op1,newK,Option.getD_some,den]
 cases enter T (Run T) f (V.stripAll (opdAll e args)) (16*d) (vis::rest)<;>rfl
@[simp] theorem dop_callv(d x args g pre hide e vis)(rest:Stk):dop T (Run T) ⟨some d, .callv x args,g,pre,hide⟩ e vis rest=newK vis rest (denV T (x.ev e) (V.stripAll (opdAll e args)) (16*d) (vis::rest)):=by
 simp only[dop,AOp.callOf,op1,newK,Option.getD_some,denV]
 cases enterV T (Run T) (x.ev e) (V.stripAll (opdAll e args)) (16*d) (vis::rest)<;>rfl
theorem dop_app(d esz bytes x y g pre hide e vis)(rest:Stk):dop T (Run T) ⟨some d, .app esz bytes x y,g,pre,hide⟩ e vis rest=effD rest.length (aop (.app esz bytes x y) (16*d) e (vis::rest)):=by
 simp only[dop,AOp.callOf,effD,Option.getD_some]
 cases aop (.app esz bytes x y) (16*d) e (vis::rest)with
 |none=>rfl
 |some q=>obtain⟨v,f⟩:=q;cases f<;>rfl
def appD(esz bytes lab:Nat)(vis:Loc)(rest:Stk)(x y:V):Option (V×Loc):=effD rest.length (match x,y with
 | .sl c z es, .sl _ z' fs=>
   if (es.length+fs.length)*bytes≤140737488355328∧es.length+fs.length<140737488355328∧(z=esz∨es=[])∧(z'=esz∨fs=[])then
    match c with
    | .no=>if fs=[]then some (.sl .no z es,none)else none
    | .full=>if fs=[]then some (.sl .full z es,none)else
      if (sget (vis::rest) (dep (vis::rest)) lab).isNone∧vis::rest≠[]then some (.sl (.own (dep (vis::rest)) lab) esz (es ++fs),some (dep (vis::rest),lab, .tok (es.length+fs.length)))else none
    | .own d l=>match sget (vis::rest) d l with
      |some (.tok n)=>if n=es.length∧z=esz then some (.sl (.own d l) esz (es ++fs),some (d,l, .tok (es.length+fs.length)))else none
      |_=>none
   else none
 | .asl d l z q o k, .sl _ z' fs=>match sget (vis::rest) d l with
   |some (.arr z0 es)=>if (es.length+fs.length)*bytes≤140737488355328∧es.length+fs.length<140737488355328∧q=es.length∧o=0∧k=q∧z=esz∧z0=esz∧(z'=esz∨fs=[])then
    (if fs=[]then some (.asl d l z q 0 k,none)else some (.asl d l esz (es.length+fs.length) 0 (es.length+fs.length),some (d,l, .arr esz (es ++fs))))else none
   |some (.harr lo z0 es)=>if (es.length+fs.length)*bytes≤140737488355328∧es.length+fs.length<140737488355328∧q=es.length∧o=0∧k=q∧z=esz∧z0=esz∧z'=esz∧fs≠[]∧d=dep (vis::rest)then
    some (.asl d l esz (es.length+fs.length) 0 (es.length+fs.length),some (d,l, .harr lo esz (es ++fs)))else none
   |_=>none
 | .asl d l z q o k, .asl d2 l2 z2 q2 o2 k2=>match sget (vis::rest) d l,sget (vis::rest) d2 l2 with
   |some (.arr z0 es),some (.arr z3 gs)=>if (es.length+k2)*bytes≤140737488355328∧es.length+k2<140737488355328∧q=es.length∧o=0∧k=q∧z=esz∧z0=esz∧z2=esz∧z3=esz∧
    q2=gs.length∧o2+k2≤gs.length∧k2≠0∧d=dep (vis::rest)∧d2=dep (vis::rest)∧l≠l2∧(gs.all V.oneAll)=true then
    some (.asl d l esz (es.length+k2) 0 (es.length+k2),some (d,l, .arr esz (es ++(gs.drop o2).take k2)))else none
   |_,_=>none
 |_,_=>none)
@[simp] theorem dop_app'(d esz bytes x y g pre hide e vis)(rest:Stk):dop T (Run T) ⟨some d, .app esz bytes x y,g,pre,hide⟩ e vis rest=appD esz bytes (16*d) vis rest (x.ev e) (y.ev e):=by
 rw[dop_app];rfl
theorem appD_full(esz bytes lab vis)(rest:Stk)(z es c' z' fs)(h1:(es.length+fs.length)*bytes≤140737488355328)(h2:es.length+fs.length<140737488355328)(h3:z=esz∨es=[])(h4:z'=esz∨fs=[])(h5:fs≠[])(h6:Loc.get vis lab=none):
 appD esz bytes lab vis rest (.sl .full z es) (.sl c' z' fs)=some (.sl (.own rest.length lab) esz (es ++fs),[(lab, .tok (es.length+fs.length))]):=by
 simp[appD,effD,h1,h2,h3,h4.resolve_right h5,h5,h6]
theorem appD_full_nil(esz bytes lab vis)(rest:Stk)(z es c' z')(h1:es.length*bytes≤140737488355328)(h2:es.length<140737488355328)(h3:z=esz∨es=[]):appD esz bytes lab vis rest (.sl .full z es) (.sl c' z' [])=some (.sl .full z es,[]):=by
 simp[appD,effD,h1,h2,h3]
def appmD(esz bytes lab:Nat)(vis:Loc)(rest:Stk)(x y:V):Option (V×Loc):=effD rest.length (match x with
 | .sl .full z []=>match (match y with
  | .sl _ z' fs=>if z'=esz∨fs=[]then some fs else none
  | .asl d l z' q o n=>match sget (vis::rest) d l with
    |some (.arr _ fs)=>if z'=esz∧q=fs.length∧o+n≤fs.length then some (((fs.map V.stripAll).drop o).take n)else none
    |_=>none
  | .csl (.ptr d l o) n=>match sget (vis::rest) d l with
    |some (.cell cs)=>if esz=1∧o+n≤cs.length then some (((cs.drop o).take n).map fun v=>[v])else none
    |_=>none
  |_=>none)with
   |some fs=>if fs.length*bytes≤140737488355328∧fs.length<140737488355328∧(z=esz∨fs=[])∧(sget (vis::rest) (dep (vis::rest)) lab).isNone∧vis::rest≠[]then
    some (.asl (dep (vis::rest)) lab esz fs.length 0 fs.length,some (dep (vis::rest),lab, .arr esz fs))else none
   |none=>none
 |_=>none)
@[simp] theorem dop_appm(d esz bytes x y g pre hide e vis)(rest:Stk):dop T (Run T) ⟨some d, .appm esz bytes x y,g,pre,hide⟩ e vis rest=appmD esz bytes (16*d) vis rest (x.ev e) (y.ev e):=by
 simp only[dop,AOp.callOf,Option.getD_some]
 change (match aop (.appm esz bytes x y) (16*d) e (vis::rest)with|some (v,none)=>some (v,[])|some (v,some (d',l,x'))=>if d'=rest.length then some (v,[(l,x')])else none|none=>none)=effD rest.length (aop (.appm esz bytes x y) (16*d) e (vis::rest))
 cases aop (.appm esz bytes x y) (16*d) e (vis::rest)with
 |none=>rfl
 |some q=>obtain⟨v,f⟩:=q;cases f<;>rfl
theorem appmD_sl(esz bytes lab vis)(rest:Stk)(z c' z' fs)(h1:fs.length*bytes≤140737488355328)(h2:fs.length<140737488355328)(h3:z=esz∨fs=[])(h4:z'=esz∨fs=[])(h6:Loc.get vis lab=none):
 appmD esz bytes lab vis rest (.sl .full z []) (.sl c' z' fs)=some (.asl rest.length lab esz fs.length 0 fs.length,[(lab, .arr esz fs)]):=by
 simp[appmD,effD,h1,h2,h3,h4,h6]
def nxt {σ:Type}(E:σ→Env)(S:σ→Stk):σ⊕(Ex×Env×Stk)→Res
 | .inl a=>some (.normal,E a,S a)
 | .inr q=>some q
@[simp] theorem nxt_inl {σ:Type}(E:σ→Env)(S:σ→Stk)(a):nxt E S (.inl a)=some (.normal,E a,S a):=rfl
@[simp] theorem nxt_inr {σ:Type}(E:σ→Env)(S:σ→Stk)(q):nxt E S (.inr q)=some q:=rfl
@[simp] theorem nxt_ite {σ:Type}(E:σ→Env)(S:σ→Stk)(p:Prop) [Decidable p](x y):nxt E S (if p then x else y)=if p then nxt E S x else nxt E S y:=by split<;>rfl
def gcN(live keep:List Nat):Res→Res
 |some (.normal,e,s)=>some (.normal,gcEnv live keep e s,gcStk keep s)
 |r=>r
@[simp] theorem gcN_normal(live keep e s):gcN live keep (some (.normal,e,s))=some (.normal,gcEnv live keep e s,gcStk keep s):=rfl
@[simp] theorem gcN_ret(live keep e s):gcN live keep (some (.ret,e,s))=some (.ret,e,s):=rfl
@[simp] theorem gcN_exit(live keep id e s):gcN live keep (some (.exit id,e,s))=some (.exit id,e,s):=rfl
@[simp] theorem gcN_ite(live keep)(p:Prop) [Decidable p](x y):gcN live keep (if p then x else y)=if p then gcN live keep x else gcN live keep y:=by split<;>rfl
theorem run_head(live keep:List Nat)(b:AC)(e:Env)(s:Stk) {e':Env} {s':Stk}(h1:gcEnv live keep e s=e')(h2:gcStk keep s=s'):Run T (.loop live keep b) e s=thenRun T (Run T b e' s') (.loop live keep b):=by
 rw[run_loop,h1,h2]
def allB {α:Type}(p:α→Bool)(l:List α):Bool:=l.all p
def anyB {α:Type}(p:α→Bool)(l:List α):Bool:=l.any p
theorem allB_iff {α:Type} {p:α→Bool} {l:List α}:allB p l=true↔ ∀x∈l,p x=true:=by simp[allB]
def iter {σ ρ:Type}(step:Nat→σ→σ⊕ρ)(fin:σ→ρ):Nat→Nat→σ→ρ
 |0,_,a=>fin a
 |m+1,k,a=>match step k a with
   | .inl a'=>iter step fin m (k+1) a'
   | .inr q=>q
theorem loop_iter {live keep:List Nat} {b:AC} {σ:Type}(n:Nat)(I:Nat→σ→Prop)(E:Nat→σ→Env)(S:Nat→σ→Stk)(step:Nat→σ→σ⊕(Ex×Env×Stk))(fin:σ→Ex×Env×Stk)
 (hs: ∀k a,k<n→I k a→gcN live keep (Run T b (E k a) (S k a))=nxt (E (k+1)) (S (k+1)) (step k a)∧(∀a',step k a= .inl a'→I (k+1) a')∧ ∀q,step k a= .inr q→q.1≠ .normal)
 (hf: ∀a,I n a→Run T b (E n a) (S n a)=some (fin a)∧(fin a).1≠ .normal):
 ∀m k a,k+m=n→I k a→ ∀e s,gcEnv live keep e s=E k a→gcStk keep s=S k a→Run T (.loop live keep b) e s=some (iter step fin m k a):=by
 intro m
 induction m with
 |zero=>
   intro k a hk hi e s he hse
   obtain rfl:k=n:=by omega
   obtain⟨h1,h2⟩:=hf a hi
   rw[run_head _ _ _ _ _ he hse,h1]
   generalize fin a=q at h1 h2
   obtain⟨ex,e,s⟩:=q
   cases ex<;>simp_all [thenRun,iter]
 |succ m ih=>
   intro k a hk hi e s he hse
   obtain⟨h1,h2,h3⟩:=hs k a (by omega) hi
   rw[run_head _ _ _ _ _ he hse]
   cases hr:Run T b (E k a) (S k a)with
   |none=>
     rw[hr]at h1
     cases hst:step k a<;>rw[hst]at h1<;>cases h1
   |some q=>
     obtain⟨ex,e1,s1⟩:=q
     rw[hr]at h1
     cases hst:step k a with
     |inl a'=>
       rw[hst]at h1
       cases ex with
       |normal=>
         simp only[gcN_normal,nxt_inl,Option.some.injEq,Prod.mk.injEq,true_and]at h1
         rw[thenRun_normal,ih (k+1) a' (by omega) (h2 a' hst) e1 s1 h1.1 h1.2]
         simp[iter,hst]
       |exit id=>simp at h1
       |ret=>simp at h1
     |inr q=>
       have:=h3 q hst
       rw[hst]at h1
       cases ex with
       |normal=>simp only[gcN_normal,nxt_inr,Option.some.injEq]at h1;rw[←h1]at this;exact absurd rfl this
       |exit id=>simp only[gcN_exit,nxt_inr,Option.some.injEq]at h1;subst h1;simp[iter,hst]
       |ret=>simp only[gcN_ret,nxt_inr,Option.some.injEq]at h1;subst h1;simp[iter,hst]
def foldS {α σ ρ:Type}(step:σ→α→σ⊕ρ)(fin:σ→ρ):List α→σ→ρ
 |[],a=>fin a
 |x::r,a=>match step a x with
   | .inl a'=>foldS step fin r a'
   | .inr q=>q
theorem iter_drop {α σ ρ:Type}(step:Nat→σ→σ⊕ρ)(step':σ→α→σ⊕ρ)(fin:σ→ρ)(l:List α)(h: ∀(k:Nat) (a:σ) x,l[k]? =some x→step k a=step' a x):
 ∀m k a,k+m=l.length→iter step fin m k a=foldS step' fin (l.drop k) a:=by
 intro m
 induction m with
 |zero=>intro k a hk;rw[List.drop_eq_nil_of_le (by omega)];rfl
 |succ m ih=>
   intro k a hk
   have hlt:k<l.length:=by omega
   rw[List.drop_eq_getElem_cons hlt]
   simp only[iter,foldS]
   rw[h k a l[k] (List.getElem?_eq_getElem hlt)]
   cases step' a l[k]with
   |inl a'=>exact ih (k+1) a' (by omega)
   |inr q=>rfl
theorem foldS_all {α σ ρ:Type}(p:α→Bool)(q:ρ)(fin:σ→ρ)(l:List α)(a:σ):foldS (fun a x=>if p x=true then .inl a else .inr q) fin l a=if l.all p=true then fin a else q:=by
 induction l with
 |nil=>simp[foldS]
 |cons x r ih=>
   by_cases h:p x=true
   ·simp[foldS,h,ih]
   ·simp[foldS,h]
theorem foldS_none {α σ ρ:Type}(p:α→Bool)(q:ρ)(fin:σ→ρ)(l:List α)(a:σ):foldS (fun a x=>if p x=true then .inr q else .inl a) fin l a=if l.any p=true then q else fin a:=by
 induction l with
 |nil=>simp[foldS]
 |cons x r ih=>
   by_cases h:p x=true
   ·simp[foldS,h]
   ·simp[foldS,h,ih]
theorem foldS_fold {α σ ρ:Type}(g:σ→α→σ)(fin:σ→ρ)(l:List α)(a:σ):foldS (fun a x=> .inl (g a x)) fin l a=fin (l.foldl g a):=by
 induction l generalizing a with
 |nil=>rfl
 |cons x r ih=>simp[foldS,ih]
theorem loop_list {live keep:List Nat} {b:AC} {α σ:Type}(l:List α)(I:Nat→σ→Prop)(E:Nat→σ→Env)(S:Nat→σ→Stk)(step:σ→α→σ⊕(Ex×Env×Stk))(fin:σ→Ex×Env×Stk)
 (hs: ∀k a (hk:k<l.length),I k a→gcN live keep (Run T b (E k a) (S k a))=nxt (E (k+1)) (S (k+1)) (step a l[k]))
 (hI: ∀k a a' (hk:k<l.length),I k a→step a l[k]= .inl a'→I (k+1) a')
 (hq: ∀k a q (hk:k<l.length),I k a→step a l[k]= .inr q→q.1≠ .normal)
 (hf: ∀a,I l.length a→Run T b (E l.length a) (S l.length a)=some (fin a))
 (hn: ∀a,(fin a).1≠ .normal) (a:σ) (h0:I 0 a) (e:Env) (s:Stk) (he:gcEnv live keep e s=E 0 a) (hse:gcStk keep s=S 0 a):
 Run T (.loop live keep b) e s=some (foldS step fin l a):=by
 have:=loop_iter (T:=T) (live:=live) (keep:=keep) (b:=b) l.length I E S (fun k a=>match l[k]? with
  |some x=>step a x
  |none=> .inr (fin a)) fin (fun k a hk hi=>by
    have hx:l[k]? =some l[k]:=List.getElem?_eq_getElem hk
    simp only[hx]
    exact⟨hs k a hk hi,fun a' h=>hI k a a' hk hi h,fun q h=>hq k a q hk hi h⟩) (fun a hi=>⟨hf a hi,hn a⟩) l.length 0 a (by omega) h0 e s he hse
 rw[this,iter_drop _ step fin l (fun k a x h=>by simp only[h]) l.length 0 a (by omega)]
 rfl
theorem loop_list0 {live keep:List Nat} {b:AC} {α σ:Type}(l:List α)(E:Nat→σ→Env)(S:Nat→σ→Stk)(step:σ→α→σ⊕(Ex×Env×Stk))(fin:σ→Ex×Env×Stk)
 (hs: ∀k a (hk:k<l.length),gcN live keep (Run T b (E k a) (S k a))=nxt (E (k+1)) (S (k+1)) (step a l[k]))
 (hq: ∀a x q,step a x= .inr q→q.1≠ .normal)
 (hf: ∀a,Run T b (E l.length a) (S l.length a)=some (fin a))
 (hn: ∀a,(fin a).1≠ .normal) (a:σ) (e:Env) (s:Stk) (he:gcEnv live keep e s=E 0 a) (hse:gcStk keep s=S 0 a):
 Run T (.loop live keep b) e s=some (foldS step fin l a):=
 loop_list l (fun _ _=>True) E S step fin (fun k a hk _=>hs k a hk) (fun _ _ _ _ _ _=>trivial) (fun _ a q _ _ h=>hq a _ q h) (fun a _=>hf a) hn a trivial e s he hse
theorem loop_all {live keep:List Nat} {b:AC} {α:Type}(l:List α)(p:α→Bool)(E:Nat→Env)(S:Nat→Stk)(q r:Ex×Env×Stk)(hq:q.1≠ .normal)(hr:r.1≠ .normal)
 (hs: ∀k (hk:k<l.length),gcN live keep (Run T b (E k) (S k))=if p l[k]=true then some (.normal,E (k+1),S (k+1))else some q)
 (hf:Run T b (E l.length) (S l.length)=some r) (e:Env) (s:Stk) (he:gcEnv live keep e s=E 0) (hse:gcStk keep s=S 0):
 Run T (.loop live keep b) e s=if allB p l=true then some r else some q:=by
 have:=loop_list0 (T:=T) (live:=live) (keep:=keep) (b:=b) l (fun k (_:Unit)=>E k) (fun k _=>S k) (fun a x=>if p x=true then .inl a else .inr q) (fun _=>r)
  (fun k a hk=>by rw[hs k hk];split<;>rfl) (fun a x q' h=>by split at h<;>simp_all) (fun _=>hf) (fun _=>hr) () e s he hse
 rw[this,foldS_all,allB]
 split<;>rfl
theorem loop_any {live keep:List Nat} {b:AC} {α:Type}(l:List α)(p:α→Bool)(E:Nat→Env)(S:Nat→Stk)(q r:Ex×Env×Stk)(hq:q.1≠ .normal)(hr:r.1≠ .normal)
 (hs: ∀k (hk:k<l.length),gcN live keep (Run T b (E k) (S k))=if p l[k]=true then some q else some (.normal,E (k+1),S (k+1)))
 (hf:Run T b (E l.length) (S l.length)=some r) (e:Env) (s:Stk) (he:gcEnv live keep e s=E 0) (hse:gcStk keep s=S 0):
 Run T (.loop live keep b) e s=if anyB p l=true then some q else some r:=by
 have:=loop_list0 (T:=T) (live:=live) (keep:=keep) (b:=b) l (fun k (_:Unit)=>E k) (fun k _=>S k) (fun a x=>if p x=true then .inr q else .inl a) (fun _=>r)
  (fun k a hk=>by rw[hs k hk];split<;>rfl) (fun a x q' h=>by split at h<;>simp_all) (fun _=>hf) (fun _=>hr) () e s he hse
 rw[this,foldS_none,anyB]
 split<;>rfl
theorem loop_all_g {live keep:List Nat} {b:AC} {α γ:Type} [Inhabited γ](l:List α)(p:α→Bool)(E:Nat→Env)(S:Nat→Stk)(q:γ→Ex×Env×Stk)(r:Ex×Env×Stk)(hq: ∀g,(q g).1≠ .normal)(hr:r.1≠ .normal)
 (hs: ∀k (hk:k<l.length),∃g,gcN live keep (Run T b (E k) (S k))=if p l[k]=true then some (.normal,E (k+1),S (k+1))else some (q g))
 (hf:Run T b (E l.length) (S l.length)=some r) (e:Env) (s:Stk) (he:gcEnv live keep e s=E 0) (hse:gcStk keep s=S 0):
 ∃g,Run T (.loop live keep b) e s=if allB p l=true then some r else some (q g):=by
 have key: ∀m k,k+m=l.length→ ∃g,∀e s,gcEnv live keep e s=E k→gcStk keep s=S k→Run T (.loop live keep b) e s=if (l.drop k).all p=true then some r else some (q g):=by
  intro m
  induction m with
  |zero=>
    intro k hk
    refine⟨default,fun e s he hse=> ?_⟩
    obtain rfl:k=l.length:=by omega
    rw[run_head _ _ _ _ _ he hse,hf]
    obtain⟨ex,e,s⟩:=r
    cases ex<;>simp_all [thenRun]
  |succ m ih=>
    intro k hk
    have hlt:k<l.length:=by omega
    obtain⟨g1,h1⟩:=hs k hlt
    obtain⟨g2,h2⟩:=ih (k+1) (by omega)
    rw[List.drop_eq_getElem_cons hlt]
    cases hr:Run T b (E k) (S k)with
    |none=>rw[hr]at h1;split at h1<;>cases h1
    |some y=>
      obtain⟨ex,e1,s1⟩:=y
      rw[hr]at h1
      by_cases hp:p l[k]=true
      ·rw[if_pos hp]at h1
       refine⟨g2,fun e s he hse=> ?_⟩
       rw[run_head _ _ _ _ _ he hse,hr]
       cases ex with
       |normal=>
         simp only[gcN_normal,Option.some.injEq,Prod.mk.injEq,true_and]at h1
         rw[thenRun_normal,h2 e1 s1 h1.1 h1.2]
         simp only[List.all_cons,hp,Bool.true_and]
       |exit id=>simp at h1
       |ret=>simp at h1
      ·rw[if_neg hp]at h1
       refine⟨g1,fun e s he hse=> ?_⟩
       rw[run_head _ _ _ _ _ he hse,hr]
       have:=hq g1
       cases ex with
       |normal=>simp only[gcN_normal,Option.some.injEq]at h1;rw[←h1]at this;exact absurd rfl this
       |exit id=>simp only[gcN_exit,Option.some.injEq]at h1;simp only[List.all_cons,Bool.eq_false_iff.2 hp,Bool.false_and,Bool.false_eq_true,if_false,←h1,thenRun_exit]
       |ret=>simp only[gcN_ret,Option.some.injEq]at h1;simp only[List.all_cons,Bool.eq_false_iff.2 hp,Bool.false_and,Bool.false_eq_true,if_false,←h1,thenRun_ret]
 obtain⟨g,h⟩:=key l.length 0 (by omega)
 exact⟨g,by rw[h e s he hse];simp[allB]⟩
theorem loop_fold {live keep:List Nat} {b:AC} {α σ:Type}(l:List α)(I:Nat→σ→Prop)(g:σ→α→σ)(E:Nat→σ→Env)(S:Nat→σ→Stk)(fin:σ→Ex×Env×Stk)(hn: ∀a,(fin a).1≠ .normal)
 (hs: ∀k a (hk:k<l.length),I k a→gcN live keep (Run T b (E k a) (S k a))=some (.normal,E (k+1) (g a l[k]),S (k+1) (g a l[k])))
 (hI: ∀k a (hk:k<l.length),I k a→I (k+1) (g a l[k]))
 (hf: ∀a,I l.length a→Run T b (E l.length a) (S l.length a)=some (fin a)) (a:σ) (h0:I 0 a) (e:Env) (s:Stk) (he:gcEnv live keep e s=E 0 a) (hse:gcStk keep s=S 0 a):
 Run T (.loop live keep b) e s=some (fin (l.foldl g a)):=by
 have:=loop_list (T:=T) (live:=live) (keep:=keep) (b:=b) l I E S (fun a x=> .inl (g a x)) fin (fun k a hk hi=>by rw[hs k a hk hi];rfl) (fun k a a' hk hi h=>by cases h;exact hI k a hk hi) (fun _ _ _ _ _ h=>by cases h) hf hn a h0 e s he hse
 rw[this,foldS_fold]
def es {α:Type}(f:α→List V)(l:List α):List (List V):=l.map f
section
variable {α : Type} (f : α → List V)
@[simp] theorem es_nil:es f []=[]:=rfl
@[simp] theorem es_length(l):(es f l).length=l.length:=by simp[es]
@[simp] theorem es_get(l:List α)(k:Nat):(es f l)[k]? =l[k]?.map f:=by simp[es]
@[simp] theorem es_at(l:List α)(k:Nat)(h:k<(es f l).length):(es f l)[k]=f (l[k]'(by simpa using h)):=by simp[es]
@[simp] theorem es_eq_nil(l:List α):es f l=[]↔l=[]:=by simp[es]
@[simp] theorem es_app(a b:List α):es f a ++es f b=es f (a ++b):=by simp[es]
@[simp] theorem es_take(a:List α)(n:Nat):(es f a).take n=es f (a.take n):=by simp[es]
@[simp] theorem es_drop(a:List α)(n:Nat):(es f a).drop n=es f (a.drop n):=by simp[es]
end
@[simp] def cInt(n:Int):List V:=[i64 n]
@[simp] theorem es_int1(l:List Int)(n:Int):es cInt l ++[[i64 n]]=es cInt (l ++[n]):=by simp[es]
def cInts(l:List Int):List V:=[.sl .no 1 (es cInt l)]
@[simp] theorem cInts_eq(l:List Int):cInts l=[.sl .no 1 (es cInt l)]:=rfl
structure Sp where
 lo:Int
 hi:Int
 deriving DecidableEq,Inhabited
@[simp] def cSp(s:Sp):List V:=[i64 s.lo,i64 s.hi]
@[simp] theorem Sp.eta(s:Sp):Sp.mk s.lo s.hi=s:=rfl
theorem wk(k:Nat)(h:k<4611686018427387904):IntKind.i64.wrap ((k:Int)+1)=(k:Int)+1:=by rw[w64];omega
theorem wi(n:Int)(h1: -9223372036854775808≤n)(h2:n≤9223372036854775807):IntKind.i64.wrap n=n:=w64 n ⟨h1,h2⟩
section
variable {α : Type} (f : α → List V)
@[simp] theorem es_map(r:Ren)(h: ∀x,V.mapAll r (f x)=f x)(l:List α):(es f l).map (V.mapAll r)=es f l:=by simp[es,h]
@[simp] theorem es_strip(h: ∀x,V.stripAll (f x)=f x)(l:List α):(es f l).map V.stripAll=es f l:=by simp[es,h]
theorem elemsOk_es(n:Nat)(h: ∀x,V.elemAll (f x)=true∧(f x).length=n)(l:List α):elemsOk (es f l) n=true:=by simp[elemsOk,es,h]
end
end
end Go.Ab

/-
  Regions that draw their order, the quick way: operations that turn nothing (and one at the end that waits for all) may be run in the order of the text.
-/
namespace Go.Ab
section
variable {T : Tab}
def opds:AOp→List Opd
 | .mv x=>[x]
 | .pick c a b=>[c,a,b]
 | .box x=>[x]
 | .alloc _=>[]
 | .build _ ps=>ps.map (·.2.2)
 | .lit _ _ ps=>ps.map (·.2)
 | .load _ a=>[a]
 | .store _ a v=>[a,v]
 | .nilck x=>[x]
 | .bin _ x y=>[x,y]
 | .un _ x=>[x]
 | .conv _ x=>[x]
 | .mkfn _ f c=>f ++c
 | .slice _ x lo hi mx=>x::(lo.toList ++hi.toList ++mx.toList)
 | .faddr _ x=>[x]
 | .field _ _ x=>[x]
 | .idxs _ x i=>[x,i]
 | .idxa _ _ x i=>[x,i]
 | .idxv _ _ _ x i=>[x,i]
 | .ext x _=>[x]
 | .len x=>[x]
 | .app _ _ x y=>[x,y]
 | .eqa _ _ x y=>[x,y]
 | .eqb _ x y=>[x,y]
 | .mm _ x y=>[x,y]
 | .mm3 _ x y z=>[x,y,z]
 | .call _ as=>as
 | .callv x as=>x::as
 | .mksl _ _ l c=>[l,c]
 | .appm _ _ x y=>[x,y]
 | .isnil _ x=>[x]
 | .clear _ x=>[x]
 | .slarr _ x hi=>x::hi.toList
 | .mkslD _ _ l c=>[l,c]
 | .litm _ _ ps=>ps.map (·.2)
 | .strix _ i=>[i]
 | .mkmap _=>[]
 | .mget _ _ m k=>[m,k]
 | .mput _ m k v=>[m,k,v]
 | .ment _ m k=>[m,k]
 | .mest m i v=>[m,i,v]
 | .fail=>[]
theorem opdAll_env {e e':Env}: ∀ {l:List Opd},(∀x∈l,x.ev e=x.ev e')→opdAll e l=opdAll e' l
 |[],_=>rfl
 |x::r,h=>by simp only[opdAll,h x (by simp),opdAll_env (l:=r) fun y hy=>h y (by simp[hy])]
theorem fillAll_env {e e':Env}: ∀ {l:List (Nat×Nat×Opd)} {cs},(∀x∈l.map (·.2.2),x.ev e=x.ev e')→fillAll e l cs=fillAll e' l cs
 |[],_,_=>rfl
 |(a,b,x)::r,cs,h=>by
   have h1:=h x (by simp)
   simp only[fillAll,h1]
   split
   ·exact fillAll_env fun y hy=>h y (by simp only[List.map_cons,List.mem_cons];exact .inr hy)
   ·rfl
theorem litAll_env {e e':Env} {size:Nat}: ∀ {l:List (Nat×Opd)} {cs},(∀x∈l.map (·.2),x.ev e=x.ev e')→litAll e size l cs=litAll e' size l cs
 |[],_,_=>rfl
 |(a,x)::r,cs,h=>by
   have h1:=h x (by simp)
   simp only[litAll,h1]
   split
   ·exact litAll_env fun y hy=>h y (by simp only[List.map_cons,List.mem_cons];exact .inr hy)
   ·rfl
theorem litAllM_env {e e':Env} {size:Nat}: ∀ {l:List (Nat×Opd)} {cs},(∀x∈l.map (·.2),x.ev e=x.ev e')→litAllM e size l cs=litAllM e' size l cs
 |[],_,_=>rfl
 |(a,x)::r,cs,h=>by
   have h1:=h x (by simp)
   simp only[litAllM,h1]
   split
   ·exact litAllM_env fun y hy=>h y (by simp only[List.map_cons,List.mem_cons];exact .inr hy)
   ·rfl
theorem aop_env {op:AOp} {lab:Nat} {e e':Env} {s:Stk}(h: ∀x∈opds op,x.ev e=x.ev e'):aop op lab e s=aop op lab e' s:=by
 cases op
 case build z ps=>simp only[aop,fillAll_env h]
 case lit z n ps=>simp only[aop,litAll_env h]
 case litm z n ps=>simp only[aop,litAllM_env h]
 case mkfn f a b=>
  simp only[opds,List.mem_append]at h
  simp only[aop,opdAll_env fun x hx=>h x (.inl hx),opdAll_env fun x hx=>h x (.inr hx)]
 case slice z x lo hi mx=>
  have hx:=h x (by simp[opds])
  have h1:lo.map (Opd.ev e)=lo.map (Opd.ev e'):=by
   cases lo with
   |none=>rfl
   |some y=>simp only[Option.map_some,h y (by simp[opds])]
  have h2:hi.map (Opd.ev e)=hi.map (Opd.ev e'):=by
   cases hi with
   |none=>rfl
   |some y=>simp only[Option.map_some,h y (by simp[opds])]
  have h3:mx.map (Opd.ev e)=mx.map (Opd.ev e'):=by
   cases mx with
   |none=>rfl
   |some y=>simp only[Option.map_some,h y (by simp[opds])]
  simp only[aop,hx,h1,h2,h3]
 case slarr n x hi=>
  have hx:=h x (by simp[opds])
  have h2:hi.map (Opd.ev e)=hi.map (Opd.ev e'):=by
   cases hi with
   |none=>rfl
   |some y=>simp only[Option.map_some,h y (by simp[opds])]
  simp only[aop,hx,h2]
 all_goals (try (simp only[opds,List.mem_cons,List.not_mem_nil,or_false,forall_eq_or_imp,forall_eq]at h))
 all_goals (simp only[aop])
 all_goals (simp only[h])
theorem op1_env {o:AOper} {e e':Env} {s:Stk}(h: ∀x∈opds o.op,x.ev e=x.ev e'):op1 T (Run T) o e s=op1 T (Run T) o e' s:=by
 obtain⟨dst,op,g,pre,hide⟩:=o
 cases op
 case call f as=>simp only[op1,AOp.callOf,opdAll_env (l:=as) h]
 case callv x as=>simp only[op1,AOp.callOf,h x (by simp[opds]),opdAll_env (l:=as) fun y hy=>h y (by simp[opds,hy])]
 all_goals (simp only[op1,AOp.callOf];rw[aop_env h])
theorem dop_env {o:AOper} {e e':Env} {vis:Loc} {rest:Stk}(h: ∀x∈opds o.op,x.ev e=x.ev e'):dop T (Run T) o e vis rest=dop T (Run T) o e' vis rest:=by
 obtain⟨dst,op,g,pre,hide⟩:=o
 have h1:=op1_env (T:=T) (o:=⟨dst,op,g,pre,hide⟩) (s:=vis::rest) h
 have h2:=aop_env (lab:=16*dst.getD 0) (s:=vis::rest) h
 cases op<;>simp only[dop,AOp.callOf]<;>first|rw[h1]|rw[h2]
def slot:Opd→Option Nat
 | .t n=>some n
 | .c _=>none
def slots(o:AOper):List Nat:=(opds o.op).filterMap slot ++(match o.guard with|some (g,_)=>[g]|none=>[])
def slotOk(pre:List Nat)(t:Nat):Nat→List (Option Nat)→Bool
 |_,[]=>true
 |j,d::ds=>(!(d==some t)||pre.contains j)&&slotOk pre t (j+1) ds
def apartOk(dst:Option Nat)(pre:List Nat):Nat→List (Option Nat)→Bool
 |_,[]=>true
 |j,d::ds=>(pre.contains j||dst.all fun t=> !(d==some t))&&apartOk dst pre (j+1) ds
def quietOp(op:AOp):Bool:=pureOp op||(match op with| .call _ _=>true| .callv _ _=>true|_=>false)
def qOk:List AOper→Nat→List (Option Nat)→Bool
 |[],_,_=>true
 |o::os,i,ds=>(o.hide.isEmpty&&(slots o).all (fun t=>slotOk o.pre t 0 ds&& !hidden i t os))&&apartOk o.dst o.pre 0 ds&&
   ((quietOp o.op&&o.dst.isSome)||(os.isEmpty&&(List.range i).all o.pre.contains))&&qOk os (i+1) (ds ++[o.dst])
def lastV(t:Nat):List Did→V→V
 |[],v=>v
 |r::rs,v=>lastV t rs (if r.dst=some t then r.v else v)
theorem getDid_last {pre:List Nat} {t:Nat}: ∀ {rs:List Did} {j:Nat} {v:V},slotOk pre t j (rs.map (·.dst))=true→getDid pre t j rs v=lastV t rs v
 |[],_,_,_=>rfl
 |r::rs,j,v,h=>by
   simp only[List.map_cons,slotOk,Bool.and_eq_true,Bool.or_eq_true,Bool.not_eq_true',beq_eq_false_iff_ne]at h
   simp only[getDid,lastV]
   rw[getDid_last h.2]
   congr 1
   by_cases hd:r.dst=some t
   ·have:=h.1.resolve_left (fun h=>h hd)
    rw[if_pos hd,if_pos hd,this];rfl
   ·rw[if_neg hd,if_neg hd]
def fullEnv(rs:List Did)(e:Env):Env:=rs.foldl (fun e r=>setDst r.dst r.v e) e
theorem get_full(t:Nat): ∀(rs:List Did) (e:Env),Env.get (fullEnv rs e) t=lastV t rs (Env.get e t)
 |[],_=>rfl
 |r::rs,e=>by
   have:=get_full t rs (setDst r.dst r.v e)
   rw[get_setDst]at this
   exact this
theorem dEnv_full {pre:List Nat}: ∀ {rs:List Did} {j:Nat} {e:Env},(∀i,j≤i→i<j+rs.length→i∈pre)→dEnv pre j rs e=fullEnv rs e
 |[],_,_,_=>rfl
 |r::rs,j,e,h=>by
   have h1:pre.contains j=true:=by simpa using h j (by omega) (by simp)
   simp only[dEnv,h1,if_true]
   rw[dEnv_full (fun i h2 h3=>h i (by omega) (by simp;omega))]
   rfl
theorem dLoc_quiet {pre:List Nat} {loc:Loc}: ∀ {rs:List Did} {j:Nat},(∀r∈rs,r.patch=[])→dLoc pre j rs loc=loc
 |[],_,_=>rfl
 |r::rs,j,h=>by
   simp only[dLoc,h r (by simp),patchAll,ite_self]
   exact dLoc_quiet fun r' h'=>h r' (by simp[h'])
theorem dHid_quiet {pre:List Nat}: ∀ {rs:List Did} {j:Nat},(∀r∈rs,r.patch=[])→dHid pre j rs=[]
 |[],_,_=>rfl
 |r::rs,j,h=>by
   simp only[dHid,h r (by simp),List.map_nil,ite_self,List.nil_append]
   exact dHid_quiet fun r' h'=>h r' (by simp[h'])
theorem apart_quiet {dst:Option Nat} {pre:List Nat}: ∀ {rs:List Did} {j:Nat},apartOk dst pre j (rs.map (·.dst))=true→dApart dst [] pre j rs=true
 |[],_,_=>rfl
 |r::rs,j,h=>by
   simp only[List.map_cons,apartOk,Bool.and_eq_true]at h
   simp only[dApart,List.all_nil,Bool.and_true,Bool.and_eq_true]
   exact⟨h.1,apart_quiet h.2⟩
theorem apart_all {dst:Option Nat} {pre:List Nat} {patch:Loc}: ∀ {rs:List Did} {j:Nat},(∀i,j≤i→i<j+rs.length→pre.contains i=true)→dApart dst patch pre j rs=true
 |[],_,_=>rfl
 |r::rs,j,h=>by
   simp only[dApart,h j (by omega) (by simp),Bool.true_or,Bool.true_and]
   exact apart_all fun i h1 h2=>h i (by omega) (by simp;omega)
open Classical in
noncomputable def runQ(T:Tab)(loc:Loc)(rest:Stk):List AOper→Env→Option (Env×Stk)
 |[],e=>some (e,loc::rest)
 |o::os,e=>
   if quietOp o.op=true∧o.dst.isSome=true then
    match o.guard with
    |none=>match op1 T (Run T) o e (loc::rest)with
      |some (v,s')=>if s'=loc::rest∧V.map (dropR rest.length (loc.map (·.1))) v=v then runQ T loc rest os (setDst o.dst v e)else none
      |none=>none
    |some (g,want)=>match e.get g with
      | .bool b=>if b=want then(match op1 T (Run T) o e (loc::rest)with
        |some (v,s')=>if s'=loc::rest∧V.map (dropR rest.length (loc.map (·.1))) v=v then runQ T loc rest os (setDst o.dst v e)else none
        |none=>none)else runQ T loc rest os (setDst o.dst .skip e)
      | .skip=>runQ T loc rest os (setDst o.dst .skip e)
      |_=>none
   else match gop T (Run T) o e loc rest with
    |some (v,patch)=>if patch.all (fun x=>(loc.map (·.1)).contains x.1||(loc.get x.1).isNone)=true then some (setDst o.dst v e,patchAll patch loc::rest)else none
    |none=>none
theorem map_get {r:Ren} {e:Env}(h:Env.ren r e=e)(t:Nat):V.map r (e.get t)=e.get t:=by rw[←get_ren,h]
theorem runDrawn_quick {loc:Loc} {rest:Stk} {e0:Env}(hl:Loc.ren (dropR rest.length (loc.map (·.1))) loc=loc)(hd:distinct (loc.map (·.1))=true):
 ∀(os:List AOper) (i:Nat) (rs:List Did) (e':Env) (s':Stk),i=rs.length→(∀r∈rs,r.patch=[])→(∀t,V.map (dropR rest.length (loc.map (·.1))) (Env.get (fullEnv rs e0) t)=Env.get (fullEnv rs e0) t)→
  qOk os i (rs.map (·.dst))=true→runQ T loc rest os (fullEnv rs e0)=some (e',s')→
  ∃rs',runDrawn T (Run T) loc rest e0 os i rs=some rs'∧e'=fullEnv rs' e0∧s'=dLoc (List.range rs'.length) 0 rs' loc::rest:=by
 intro os
 induction os with
 |nil=>
   intro i rs e' s' hi hp hc hq h
   simp only[runQ,Option.some.injEq,Prod.mk.injEq]at h
   exact⟨rs,rfl,h.1.symm,by rw[dLoc_quiet hp,h.2]⟩
 |cons o os ih=>
   intro i rs e' s' hi hp hc hq h
   simp only[qOk,Bool.and_eq_true,List.all_eq_true,Bool.not_eq_true',List.isEmpty_iff]at hq
   obtain⟨⟨⟨⟨hh,hs⟩,ha⟩,hk⟩,hrest⟩:=hq
   have hvis:dVis o rs loc=loc:=by simp[dVis,dLoc_quiet hp,dHid_quiet hp,hh]
   have hsee:dSee o rs loc=loc.map (·.1):=by rw[dSee,hvis]
   have hget: ∀t∈slots o,Env.get (dSeen o os i rest.length rs loc e0) t=Env.get (fullEnv rs e0) t:=by
    intro t ht
    obtain⟨h1,h2⟩:=hs t ht
    rw[get_dSeen,h2,hsee,getDid_last h1,←get_full]
    simpa using hc t
   have hev: ∀x∈opds o.op,x.ev (dSeen o os i rest.length rs loc e0)=x.ev (fullEnv rs e0):=by
    intro x hx
    cases x with
    |c v=>rfl
    |t n=>exact hget n (by simp only[slots,List.mem_append,List.mem_filterMap];exact .inl ⟨_,hx,rfl⟩)
   have hgd: ∀g want,o.guard=some (g,want)→Env.get (dSeen o os i rest.length rs loc e0) g=Env.get (fullEnv rs e0) g:=by
    intro g want hg
    exact hget g (by simp[slots,hg])
   have hgop:gop T (Run T) o (dSeen o os i rest.length rs loc e0) loc rest=gop T (Run T) o (fullEnv rs e0) loc rest:=by
    simp only[gop]
    cases hg:o.guard with
    |none=>exact dop_env hev
    |some q=>obtain⟨g,want⟩:=q;simp only[hgd g want hg,dop_env hev]
   have step: ∀v patch,gop T (Run T) o (fullEnv rs e0) loc rest=some (v,patch)→(patch.all (fun x=>(loc.map (·.1)).contains x.1||(loc.get x.1).isNone)&&dApart o.dst patch o.pre 0 rs)=true→
    runDrawn T (Run T) loc rest e0 (o::os) i rs=runDrawn T (Run T) loc rest e0 os (i+1) (rs ++[⟨o.dst,v,patch,loc.map (·.1)⟩]):=by
    intro v patch hv hpa
    have hnm:o.isMove=false:=by simp[AOper.isMove,hh]
    rw[runDrawn,if_neg (by rw[hnm];decide),hsee,hvis,if_pos hl,hgop,hv]
    simp only[dLoc_quiet hp]
    rw[if_pos hpa]
   have full1: ∀v patch,fullEnv (rs ++[⟨o.dst,v,patch,loc.map (·.1)⟩]) e0=setDst o.dst v (fullEnv rs e0):=by
    intro v patch;simp[fullEnv]
   by_cases hqt:quietOp o.op=true∧o.dst.isSome=true
   · --what a quiet operation does
    obtain⟨d,hdst⟩:=Option.isSome_iff_exists.1 hqt.2
    have quiet: ∀v,op1 T (Run T) o (fullEnv rs e0) (loc::rest)=some (v,loc::rest)→dop T (Run T) o (fullEnv rs e0) loc rest=some (v,[]):=by
     intro v hv
     obtain⟨dst,op,g,pre,hide⟩:=o
     simp only at hdst
     subst hdst
     cases hpo:pureOp op with
     |true=>rw[dop_pure _ _ _ _ _ _ _ _ hpo,hv];rfl
     |false=>
       cases op<;>simp[quietOp,pureOp]at hqt hpo
       ·rw[dop_call]
        rw[op1_call]at hv
        rw[hv];simp[hd]
       ·rw[dop_callv]
        rw[op1_callv]at hv
        rw[hv];simp[hd]
    have go: ∀v,gop T (Run T) o (fullEnv rs e0) loc rest=some (v,[])→V.map (dropR rest.length (loc.map (·.1))) v=v→runQ T loc rest os (setDst o.dst v (fullEnv rs e0))=some (e',s')→
     ∃rs',runDrawn T (Run T) loc rest e0 (o::os) i rs=some rs'∧e'=fullEnv rs' e0∧s'=dLoc (List.range rs'.length) 0 rs' loc::rest:=by
     intro v hv hm hr
     rw[step v [] hv (by simp[apart_quiet ha])]
     refine ih (i+1) _ e' s' (by simp[hi]) ?_ ?_ ?_ ?_
     ·intro r hr'
      simp only[List.mem_append,List.mem_singleton]at hr'
      rcases hr' with h1|rfl
      ·exact hp r h1
      ·rfl
     ·intro t
      rw[full1,get_setDst]
      split
      ·exact hm
      ·exact hc t
     ·simpa using hrest
     ·rw[full1];exact hr
    rw[runQ,if_pos hqt]at h
    cases hg:o.guard with
    |none=>
      rw[hg]at h
      dsimp only at h
      cases ho:op1 T (Run T) o (fullEnv rs e0) (loc::rest)with
      |none=>rw[ho]at h;cases h
      |some q=>
        obtain⟨v,s1⟩:=q
        rw[ho]at h
        dsimp only at h
        split at h
        ·rename_i hx
         obtain⟨rfl,hm⟩:=hx
         exact go v (by simp only[gop,hg];exact quiet v ho) hm h
        ·cases h
    |some q=>
      obtain⟨g,want⟩:=q
      rw[hg]at h
      dsimp only at h
      cases hb:Env.get (fullEnv rs e0) g with
      |bool b=>
        rw[hb]at h
        dsimp only at h
        by_cases hbw:b=want
        ·rw[if_pos hbw]at h
         cases ho:op1 T (Run T) o (fullEnv rs e0) (loc::rest)with
         |none=>rw[ho]at h;cases h
         |some q=>
           obtain⟨v,s1⟩:=q
           rw[ho]at h
           dsimp only at h
           split at h
           ·rename_i hx
            obtain⟨rfl,hm⟩:=hx
            exact go v (by simp only[gop,hg,hb,hbw,if_true];exact quiet v ho) hm h
           ·cases h
        ·rw[if_neg hbw]at h
         exact go .skip (by simp only[gop,hg,hb,hbw,if_false]) (by simp) h
      |skip=>
        rw[hb]at h
        exact go .skip (by simp only[gop,hg,hb]) (by simp) h
      |_=>rw[hb]at h;cases h
   · --the last one,that waits for all
    simp only[Bool.or_eq_true,Bool.and_eq_true,List.isEmpty_iff,List.all_eq_true]at hk
    have hk':os=[]∧ ∀x∈List.range i,o.pre.contains x=true:=hk.resolve_left hqt
    obtain⟨rfl,hall⟩:=hk'
    rw[runQ,if_neg hqt]at h
    cases hv:gop T (Run T) o (fullEnv rs e0) loc rest with
    |none=>rw[hv]at h;cases h
    |some q=>
      obtain⟨v,patch⟩:=q
      rw[hv]at h
      dsimp only at h
      split at h
      ·rename_i hpa
       simp only[Option.some.injEq,Prod.mk.injEq]at h
       obtain⟨h1,h2⟩:=h
       refine⟨rs ++[⟨o.dst,v,patch,loc.map (·.1)⟩],?_,?_,?_⟩
       ·rw[step v patch hv (by rw[hpa,apart_all (fun i' _ h3=>hall i' (by simp;omega))];rfl)]
        rfl
       ·rw[full1,h1]
       ·rw[←h2]
        congr 1
        have: ∀(rs:List Did) (j:Nat) (pre:List Nat) (r:Did),(∀r∈rs,r.patch=[])→pre.contains (j+rs.length)=true→dLoc pre j (rs ++[r]) loc=patchAll r.patch loc:=by
         intro rs
         induction rs with
         |nil=>intro j pre r _ h;simp only[List.nil_append,dLoc];simp at h;simp[h]
         |cons r0 rs ih=>
           intro j pre r h1 h2
           simp only[List.cons_append,dLoc,h1 r0 (by simp),patchAll,ite_self]
           exact ih (j+1) pre r (fun r' h'=>h1 r' (by simp[h'])) (by rw[←h2];congr 1;simp;omega)
        rw[this rs 0 _ _ hp (by simp)]
      ·cases h
noncomputable def slowDrawn(T:Tab)(ops:List AOper)(live:List Nat)(e:Env)(s:Stk):Res:=Run T (.region true ops live) e s
theorem slowDrawn_eq(ops live e s):slowDrawn T ops live e s=Run T (.region true ops live) e s:=rfl
noncomputable def orSlow(T:Tab)(ops:List AOper)(live:List Nat)(e:Env)(s:Stk):Option (Env×Stk)→Res
 |some (e',s')=>some (.normal,Env.only live e',s')
 |none=>slowDrawn T ops live e s
@[simp] theorem orSlow_some(ops live e s e' s'):orSlow T ops live e s (some (e',s'))=some (.normal,Env.only live e',s'):=rfl
@[simp] theorem orSlow_ite(ops live e s)(p:Prop) [Decidable p](x y):orSlow T ops live e s (if p then x else y)=if p then orSlow T ops live e s x else orSlow T ops live e s y:=by split<;>rfl
noncomputable def qTail(T:Tab)(B:List AOper):Option (Env×Stk)→Option (Env×Stk)
 |some (e,s)=>runOps T (Run T) B e s
 |none=>none
@[simp] theorem qTail_some(B e s):qTail T B (some (e,s))=runOps T (Run T) B e s:=rfl
@[simp] theorem qTail_none(B):qTail T B none=none:=rfl
@[simp] theorem qTail_ite(B)(p:Prop) [Decidable p](x y):qTail T B (if p then x else y)=if p then qTail T B x else qTail T B y:=by split<;>rfl
theorem run_quick(A B live e loc)(rest:Stk)(hc:splOk A B=true)(hq:qOk A 0 []=true)(hl:Loc.ren (dropR rest.length (loc.map (·.1))) loc=loc)(hd:distinct (loc.map (·.1))=true)(he:Env.ren (dropR rest.length (loc.map (·.1))) e=e):
 Run T (.region true (spl A B) live) e (loc::rest)=orSlow T (spl A B) live e (loc::rest) (qTail T B (runQ T loc rest A e)):=by
 cases h:runQ T loc rest A e with
 |none=>rfl
 |some q=>
   obtain⟨e',s'⟩:=q
   obtain⟨rs',h1,h2,h3⟩:=runDrawn_quick (e0:=e) hl hd A 0 [] e' s' rfl (by simp) (fun t=>map_get he t) (by simpa using hq) h
   rw[qTail_some,run_drawnK _ _ _ _ _ _ hc,h1]
   simp only[drawnK_some,←h3]
   rw[dEnv_full (by intro i _ h;simpa using h),←h2]
   cases hB:runOps T (Run T) B e' s' with
   |none=>
     simp only[onlyK_none,orSlow,slowDrawn]
     rw[run_drawnK _ _ _ _ _ _ hc,h1]
     simp only[drawnK_some,←h3]
     rw[dEnv_full (by intro i _ h;simpa using h),←h2,hB]
     rfl
   |some q=>obtain⟨e2,s2⟩:=q;rfl
open Classical in
noncomputable def qThen(T:Tab)(loc:Loc)(rest:Stk)(os:List AOper)(dst:Option Nat)(e:Env):Option (V×Stk)→Option (Env×Stk)
 |some (v,s')=>if s'=loc::rest∧V.map (dropR rest.length (loc.map (·.1))) v=v then runQ T loc rest os (setDst dst v e)else none
 |none=>none
open Classical in
@[simp] theorem qThen_some(loc rest os dst e v s'):qThen T loc rest os dst e (some (v,s'))=if s'=loc::rest∧V.map (dropR rest.length (loc.map (·.1))) v=v then runQ T loc rest os (setDst dst v e) else none:=rfl
@[simp] theorem qThen_none(loc rest os dst e):qThen T loc rest os dst e none=none:=rfl
@[simp] theorem qThen_ite(loc rest os dst e)(p:Prop) [Decidable p](x y):qThen T loc rest os dst e (if p then x else y)=if p then qThen T loc rest os dst e x else qThen T loc rest os dst e y:=by split<;>rfl
noncomputable def qGuard(T:Tab)(g:V)(want:Bool)(loc:Loc)(rest:Stk)(os:List AOper)(o:AOper)(e:Env):Option (Env×Stk):=match g with
 | .bool b=>if b=want then qThen T loc rest os o.dst e (op1 T (Run T) o e (loc::rest))else runQ T loc rest os (setDst o.dst .skip e)
 | .skip=>runQ T loc rest os (setDst o.dst .skip e)
 |_=>none
@[congr] theorem qGuard_congr {g g':V}(h:g=g')(want loc rest os o e):qGuard T g want loc rest os o e=qGuard T g' want loc rest os o e:=by rw[h]
@[simp] theorem qGuard_bool(b want loc rest os dst op gu pre hide e):qGuard T (.bool b) want loc rest os ⟨dst,op,gu,pre,hide⟩ e=if b=want then qThen T loc rest os dst e (op1 T (Run T) ⟨dst,op,gu,pre,hide⟩ e (loc::rest)) else runQ T loc rest os (setDst dst .skip e):=rfl
@[simp] theorem qGuard_skip(want loc rest os dst op gu pre hide e):qGuard T .skip want loc rest os ⟨dst,op,gu,pre,hide⟩ e=runQ T loc rest os (setDst dst .skip e):=rfl
theorem runQ_none {op:AOp}(h:quietOp op=true)(d pre hide os e loc rest):runQ T loc rest (⟨some d,op,none,pre,hide⟩::os) e=qThen T loc rest os (some d) e (op1 T (Run T) ⟨some d,op,none,pre,hide⟩ e (loc::rest)):=by
 rw[runQ,if_pos ⟨h,rfl⟩]
 dsimp only
 cases op1 T (Run T) ⟨some d,op,none,pre,hide⟩ e (loc::rest)<;>rfl
theorem runQ_guard {op:AOp}(h:quietOp op=true)(d g want pre hide os e loc rest):runQ T loc rest (⟨some d,op,some (g,want),pre,hide⟩::os) e=qGuard T (e.get g) want loc rest os ⟨some d,op,some (g,want),pre,hide⟩ e:=by
 rw[runQ,if_pos ⟨h,rfl⟩]
 dsimp only
 cases e.get g<;>rfl
@[simp] theorem runQ_nil(loc rest e):runQ T loc rest [] e=some (e,loc::rest):=rfl
def qLast(dst:Option Nat)(e:Env)(loc:Loc)(rest:Stk):Option (V×Loc)→Option (Env×Stk)
 |some (v,patch)=>if patch.all (fun x=>(loc.map (·.1)).contains x.1||(loc.get x.1).isNone)=true then some (setDst dst v e,patchAll patch loc::rest)else none
 |none=>none
@[simp] theorem qLast_some(dst e loc rest v patch):qLast dst e loc rest (some (v,patch))=if patch.all (fun x=>(loc.map (·.1)).contains x.1||(loc.get x.1).isNone)=true then some (setDst dst v e,patchAll patch loc::rest) else none:=rfl
@[simp] theorem qLast_none(dst e loc rest):qLast dst e loc rest none=none:=rfl
@[simp] theorem qLast_ite(dst e loc rest)(p:Prop) [Decidable p](x y):qLast dst e loc rest (if p then x else y)=if p then qLast dst e loc rest x else qLast dst e loc rest y:=by split<;>rfl
@[simp] theorem runQ_store(n a v g pre hide os e loc rest):runQ T loc rest (⟨none, .store n a v,g,pre,hide⟩::os) e=qLast none e loc rest (gop T (Run T) ⟨none, .store n a v,g,pre,hide⟩ e loc rest):=by
 rw[runQ,if_neg (by simp)]
 cases gop T (Run T) ⟨none, .store n a v,g,pre,hide⟩ e loc rest<;>rfl
@[simp] theorem rq_mv(x)(d pre hide os e loc rest):runQ T loc rest (⟨some d, .mv x,none,pre,hide⟩::os) e=qThen T loc rest os (some d) e (op1 T (Run T) ⟨some d, .mv x,none,pre,hide⟩ e (loc::rest)):=runQ_none rfl _ _ _ _ _ _ _
@[simp] theorem rqg_mv(x)(d gu want pre hide os e loc rest):runQ T loc rest (⟨some d, .mv x,some (gu,want),pre,hide⟩::os) e=qGuard T (e.get gu) want loc rest os ⟨some d, .mv x,some (gu,want),pre,hide⟩ e:=runQ_guard rfl _ _ _ _ _ _ _ _ _
@[simp] theorem rq_pick(c a b)(d pre hide os e loc rest):runQ T loc rest (⟨some d, .pick c a b,none,pre,hide⟩::os) e=qThen T loc rest os (some d) e (op1 T (Run T) ⟨some d, .pick c a b,none,pre,hide⟩ e (loc::rest)):=runQ_none rfl _ _ _ _ _ _ _
@[simp] theorem rqg_pick(c a b)(d gu want pre hide os e loc rest):runQ T loc rest (⟨some d, .pick c a b,some (gu,want),pre,hide⟩::os) e=qGuard T (e.get gu) want loc rest os ⟨some d, .pick c a b,some (gu,want),pre,hide⟩ e:=runQ_guard rfl _ _ _ _ _ _ _ _ _
@[simp] theorem rq_build(z ps)(d pre hide os e loc rest):runQ T loc rest (⟨some d, .build z ps,none,pre,hide⟩::os) e=qThen T loc rest os (some d) e (op1 T (Run T) ⟨some d, .build z ps,none,pre,hide⟩ e (loc::rest)):=runQ_none rfl _ _ _ _ _ _ _
@[simp] theorem rqg_build(z ps)(d gu want pre hide os e loc rest):runQ T loc rest (⟨some d, .build z ps,some (gu,want),pre,hide⟩::os) e=qGuard T (e.get gu) want loc rest os ⟨some d, .build z ps,some (gu,want),pre,hide⟩ e:=runQ_guard rfl _ _ _ _ _ _ _ _ _
@[simp] theorem rq_lit(z n ps)(d pre hide os e loc rest):runQ T loc rest (⟨some d, .lit z n ps,none,pre,hide⟩::os) e=qThen T loc rest os (some d) e (op1 T (Run T) ⟨some d, .lit z n ps,none,pre,hide⟩ e (loc::rest)):=runQ_none rfl _ _ _ _ _ _ _
@[simp] theorem rqg_lit(z n ps)(d gu want pre hide os e loc rest):runQ T loc rest (⟨some d, .lit z n ps,some (gu,want),pre,hide⟩::os) e=qGuard T (e.get gu) want loc rest os ⟨some d, .lit z n ps,some (gu,want),pre,hide⟩ e:=runQ_guard rfl _ _ _ _ _ _ _ _ _
@[simp] theorem rq_load(n a)(d pre hide os e loc rest):runQ T loc rest (⟨some d, .load n a,none,pre,hide⟩::os) e=qThen T loc rest os (some d) e (op1 T (Run T) ⟨some d, .load n a,none,pre,hide⟩ e (loc::rest)):=runQ_none rfl _ _ _ _ _ _ _
@[simp] theorem rqg_load(n a)(d gu want pre hide os e loc rest):runQ T loc rest (⟨some d, .load n a,some (gu,want),pre,hide⟩::os) e=qGuard T (e.get gu) want loc rest os ⟨some d, .load n a,some (gu,want),pre,hide⟩ e:=runQ_guard rfl _ _ _ _ _ _ _ _ _
@[simp] theorem rq_nilck(x)(d pre hide os e loc rest):runQ T loc rest (⟨some d, .nilck x,none,pre,hide⟩::os) e=qThen T loc rest os (some d) e (op1 T (Run T) ⟨some d, .nilck x,none,pre,hide⟩ e (loc::rest)):=runQ_none rfl _ _ _ _ _ _ _
@[simp] theorem rqg_nilck(x)(d gu want pre hide os e loc rest):runQ T loc rest (⟨some d, .nilck x,some (gu,want),pre,hide⟩::os) e=qGuard T (e.get gu) want loc rest os ⟨some d, .nilck x,some (gu,want),pre,hide⟩ e:=runQ_guard rfl _ _ _ _ _ _ _ _ _
@[simp] theorem rq_bin(op x y)(d pre hide os e loc rest):runQ T loc rest (⟨some d, .bin op x y,none,pre,hide⟩::os) e=qThen T loc rest os (some d) e (op1 T (Run T) ⟨some d, .bin op x y,none,pre,hide⟩ e (loc::rest)):=runQ_none rfl _ _ _ _ _ _ _
@[simp] theorem rqg_bin(op x y)(d gu want pre hide os e loc rest):runQ T loc rest (⟨some d, .bin op x y,some (gu,want),pre,hide⟩::os) e=qGuard T (e.get gu) want loc rest os ⟨some d, .bin op x y,some (gu,want),pre,hide⟩ e:=runQ_guard rfl _ _ _ _ _ _ _ _ _
@[simp] theorem rq_un(op x)(d pre hide os e loc rest):runQ T loc rest (⟨some d, .un op x,none,pre,hide⟩::os) e=qThen T loc rest os (some d) e (op1 T (Run T) ⟨some d, .un op x,none,pre,hide⟩ e (loc::rest)):=runQ_none rfl _ _ _ _ _ _ _
@[simp] theorem rqg_un(op x)(d gu want pre hide os e loc rest):runQ T loc rest (⟨some d, .un op x,some (gu,want),pre,hide⟩::os) e=qGuard T (e.get gu) want loc rest os ⟨some d, .un op x,some (gu,want),pre,hide⟩ e:=runQ_guard rfl _ _ _ _ _ _ _ _ _
@[simp] theorem rq_mkfn(f first cap)(d pre hide os e loc rest):runQ T loc rest (⟨some d, .mkfn f first cap,none,pre,hide⟩::os) e=qThen T loc rest os (some d) e (op1 T (Run T) ⟨some d, .mkfn f first cap,none,pre,hide⟩ e (loc::rest)):=runQ_none rfl _ _ _ _ _ _ _
@[simp] theorem rqg_mkfn(f first cap)(d gu want pre hide os e loc rest):runQ T loc rest (⟨some d, .mkfn f first cap,some (gu,want),pre,hide⟩::os) e=qGuard T (e.get gu) want loc rest os ⟨some d, .mkfn f first cap,some (gu,want),pre,hide⟩ e:=runQ_guard rfl _ _ _ _ _ _ _ _ _
@[simp] theorem rq_slice(esz x lo hi mx)(d pre hide os e loc rest):runQ T loc rest (⟨some d, .slice esz x lo hi mx,none,pre,hide⟩::os) e=qThen T loc rest os (some d) e (op1 T (Run T) ⟨some d, .slice esz x lo hi mx,none,pre,hide⟩ e (loc::rest)):=runQ_none rfl _ _ _ _ _ _ _
@[simp] theorem rqg_slice(esz x lo hi mx)(d gu want pre hide os e loc rest):runQ T loc rest (⟨some d, .slice esz x lo hi mx,some (gu,want),pre,hide⟩::os) e=qGuard T (e.get gu) want loc rest os ⟨some d, .slice esz x lo hi mx,some (gu,want),pre,hide⟩ e:=runQ_guard rfl _ _ _ _ _ _ _ _ _
@[simp] theorem rq_faddr(off x)(d pre hide os e loc rest):runQ T loc rest (⟨some d, .faddr off x,none,pre,hide⟩::os) e=qThen T loc rest os (some d) e (op1 T (Run T) ⟨some d, .faddr off x,none,pre,hide⟩ e (loc::rest)):=runQ_none rfl _ _ _ _ _ _ _
@[simp] theorem rqg_faddr(off x)(d gu want pre hide os e loc rest):runQ T loc rest (⟨some d, .faddr off x,some (gu,want),pre,hide⟩::os) e=qGuard T (e.get gu) want loc rest os ⟨some d, .faddr off x,some (gu,want),pre,hide⟩ e:=runQ_guard rfl _ _ _ _ _ _ _ _ _
@[simp] theorem rq_idxs(esz x i)(d pre hide os e loc rest):runQ T loc rest (⟨some d, .idxs esz x i,none,pre,hide⟩::os) e=qThen T loc rest os (some d) e (op1 T (Run T) ⟨some d, .idxs esz x i,none,pre,hide⟩ e (loc::rest)):=runQ_none rfl _ _ _ _ _ _ _
@[simp] theorem rqg_idxs(esz x i)(d gu want pre hide os e loc rest):runQ T loc rest (⟨some d, .idxs esz x i,some (gu,want),pre,hide⟩::os) e=qGuard T (e.get gu) want loc rest os ⟨some d, .idxs esz x i,some (gu,want),pre,hide⟩ e:=runQ_guard rfl _ _ _ _ _ _ _ _ _
@[simp] theorem rq_idxa(len esz x i)(d pre hide os e loc rest):runQ T loc rest (⟨some d, .idxa len esz x i,none,pre,hide⟩::os) e=qThen T loc rest os (some d) e (op1 T (Run T) ⟨some d, .idxa len esz x i,none,pre,hide⟩ e (loc::rest)):=runQ_none rfl _ _ _ _ _ _ _
@[simp] theorem rqg_idxa(len esz x i)(d gu want pre hide os e loc rest):runQ T loc rest (⟨some d, .idxa len esz x i,some (gu,want),pre,hide⟩::os) e=qGuard T (e.get gu) want loc rest os ⟨some d, .idxa len esz x i,some (gu,want),pre,hide⟩ e:=runQ_guard rfl _ _ _ _ _ _ _ _ _
@[simp] theorem rq_ext(x i)(d pre hide os e loc rest):runQ T loc rest (⟨some d, .ext x i,none,pre,hide⟩::os) e=qThen T loc rest os (some d) e (op1 T (Run T) ⟨some d, .ext x i,none,pre,hide⟩ e (loc::rest)):=runQ_none rfl _ _ _ _ _ _ _
@[simp] theorem rqg_ext(x i)(d gu want pre hide os e loc rest):runQ T loc rest (⟨some d, .ext x i,some (gu,want),pre,hide⟩::os) e=qGuard T (e.get gu) want loc rest os ⟨some d, .ext x i,some (gu,want),pre,hide⟩ e:=runQ_guard rfl _ _ _ _ _ _ _ _ _
@[simp] theorem rq_len(x)(d pre hide os e loc rest):runQ T loc rest (⟨some d, .len x,none,pre,hide⟩::os) e=qThen T loc rest os (some d) e (op1 T (Run T) ⟨some d, .len x,none,pre,hide⟩ e (loc::rest)):=runQ_none rfl _ _ _ _ _ _ _
@[simp] theorem rqg_len(x)(d gu want pre hide os e loc rest):runQ T loc rest (⟨some d, .len x,some (gu,want),pre,hide⟩::os) e=qGuard T (e.get gu) want loc rest os ⟨some d, .len x,some (gu,want),pre,hide⟩ e:=runQ_guard rfl _ _ _ _ _ _ _ _ _
@[simp] theorem rq_eqa(ks neg x y)(d pre hide os e loc rest):runQ T loc rest (⟨some d, .eqa ks neg x y,none,pre,hide⟩::os) e=qThen T loc rest os (some d) e (op1 T (Run T) ⟨some d, .eqa ks neg x y,none,pre,hide⟩ e (loc::rest)):=runQ_none rfl _ _ _ _ _ _ _
@[simp] theorem rqg_eqa(ks neg x y)(d gu want pre hide os e loc rest):runQ T loc rest (⟨some d, .eqa ks neg x y,some (gu,want),pre,hide⟩::os) e=qGuard T (e.get gu) want loc rest os ⟨some d, .eqa ks neg x y,some (gu,want),pre,hide⟩ e:=runQ_guard rfl _ _ _ _ _ _ _ _ _
@[simp] theorem rq_slarr(n x hi)(d pre hide os e loc rest):runQ T loc rest (⟨some d, .slarr n x hi,none,pre,hide⟩::os) e=qThen T loc rest os (some d) e (op1 T (Run T) ⟨some d, .slarr n x hi,none,pre,hide⟩ e (loc::rest)):=runQ_none rfl _ _ _ _ _ _ _
@[simp] theorem rqg_slarr(n x hi)(d gu want pre hide os e loc rest):runQ T loc rest (⟨some d, .slarr n x hi,some (gu,want),pre,hide⟩::os) e=qGuard T (e.get gu) want loc rest os ⟨some d, .slarr n x hi,some (gu,want),pre,hide⟩ e:=runQ_guard rfl _ _ _ _ _ _ _ _ _
@[simp] theorem rq_mm(mx x y)(d pre hide os e loc rest):runQ T loc rest (⟨some d, .mm mx x y,none,pre,hide⟩::os) e=qThen T loc rest os (some d) e (op1 T (Run T) ⟨some d, .mm mx x y,none,pre,hide⟩ e (loc::rest)):=runQ_none rfl _ _ _ _ _ _ _
@[simp] theorem rqg_mm(mx x y)(d gu want pre hide os e loc rest):runQ T loc rest (⟨some d, .mm mx x y,some (gu,want),pre,hide⟩::os) e=qGuard T (e.get gu) want loc rest os ⟨some d, .mm mx x y,some (gu,want),pre,hide⟩ e:=runQ_guard rfl _ _ _ _ _ _ _ _ _
@[simp] theorem rq_mm3(mx x y z)(d pre hide os e loc rest):runQ T loc rest (⟨some d, .mm3 mx x y z,none,pre,hide⟩::os) e=qThen T loc rest os (some d) e (op1 T (Run T) ⟨some d, .mm3 mx x y z,none,pre,hide⟩ e (loc::rest)):=runQ_none rfl _ _ _ _ _ _ _
@[simp] theorem rqg_mm3(mx x y z)(d gu want pre hide os e loc rest):runQ T loc rest (⟨some d, .mm3 mx x y z,some (gu,want),pre,hide⟩::os) e=qGuard T (e.get gu) want loc rest os ⟨some d, .mm3 mx x y z,some (gu,want),pre,hide⟩ e:=runQ_guard rfl _ _ _ _ _ _ _ _ _
@[simp] theorem rq_call(f args)(d pre hide os e loc rest):runQ T loc rest (⟨some d, .call f args,none,pre,hide⟩::os) e=qThen T loc rest os (some d) e (op1 T (Run T) ⟨some d, .call f args,none,pre,hide⟩ e (loc::rest)):=runQ_none rfl _ _ _ _ _ _ _
@[simp] theorem rqg_call(f args)(d gu want pre hide os e loc rest):runQ T loc rest (⟨some d, .call f args,some (gu,want),pre,hide⟩::os) e=qGuard T (e.get gu) want loc rest os ⟨some d, .call f args,some (gu,want),pre,hide⟩ e:=runQ_guard rfl _ _ _ _ _ _ _ _ _
@[simp] theorem rq_callv(x args)(d pre hide os e loc rest):runQ T loc rest (⟨some d, .callv x args,none,pre,hide⟩::os) e=qThen T loc rest os (some d) e (op1 T (Run T) ⟨some d, .callv x args,none,pre,hide⟩ e (loc::rest)):=runQ_none rfl _ _ _ _ _ _ _
@[simp] theorem rqg_callv(x args)(d gu want pre hide os e loc rest):runQ T loc rest (⟨some d, .callv x args,some (gu,want),pre,hide⟩::os) e=qGuard T (e.get gu) want loc rest os ⟨some d, .callv x args,some (gu,want),pre,hide⟩ e:=runQ_guard rfl _ _ _ _ _ _ _ _ _
attribute [simp] run_quick
end
end Go.Ab

/-
  More for simp: entries put and got; results that are handed on.
-/
namespace Go.Ab
@[simp] theorem isMove_mv(dst x pre hide):AOper.isMove ⟨dst, .mv x,none,pre,hide⟩=hide.contains 888888:=by simp[AOper.isMove]
@[simp] theorem isMove_other(dst op g pre hide)(h:hide.contains 888888=false):AOper.isMove ⟨dst,op,g,pre,hide⟩=false:=by simp only[AOper.isMove,h,Bool.false_and]
@[simp] theorem sget_cons(loc:Loc)(r:Stk)(d l:Nat):sget (loc::r) d l=if d=r.length then loc.get l else sget r d l:=rfl
@[simp] theorem sput_cons(loc:Loc)(r:Stk)(d l:Nat)(x:Entry):sput (loc::r) d l x=if d=r.length then loc.put l x::r else loc::sput r d l x:=rfl
@[simp] theorem downK_cons(d:Nat)(loc:Loc)(r:Stk)(v:V):downK d (loc::r) v=if d=r.length then some v else v.down d:=by simp[downK]
attribute [simp] V.down V.downAll Cap.down
@[simp] theorem get_put(loc:Loc)(l:Nat)(x:Entry)(k:Nat):Loc.get (Loc.put loc l x) k=if k=l then some x else Loc.get loc k:=by
 induction loc with
 |nil=>simp only[Loc.put,Loc.get]
 |cons y r ih=>
   obtain⟨m,y⟩:=y
   simp only[Loc.put]
   by_cases h:l=m
   ·simp only[h,if_true,Loc.get]
    by_cases hk:k=m<;>simp[hk]
   ·simp only[h,if_false,Loc.get,ih]
    by_cases hk:k=m
    ·subst hk
     have: ¬k=l:=fun e=>h e.symm
     simp[this]
    ·simp[hk]
section
variable (own : Bool) (d : Nat) (loc : Loc) (ls : List Nat) (lab : Nat)
@[simp] theorem adoptAll_nil(s:Stk):adoptAll own d ls loc lab [] s=some s:=rfl
def adE(own:Bool)(d:Nat)(ls:List Nat)(loc:Loc)(lab:Nat)(l:Nat)(r:List Nat)(s:Stk):Option Entry→Option Stk
 |some x=>if x.goes own&&(sget s (dep s) (newLab lab l ls)).isNone then adoptAll own d ls loc lab r (sput s (dep s) (newLab lab l ls) (x.map (renR own d loc ls (dep s) lab)))else none
 |none=>none
@[simp] theorem adoptAll_cons(l:Nat)(r:List Nat)(s:Stk):adoptAll own d ls loc lab (l::r) s=adE own d ls loc lab l r s (loc.get l):=by
 simp only[adoptAll,adE];cases loc.get l<;>rfl
@[simp] theorem adE_some(l:Nat)(r:List Nat)(l0:Loc)(s:Stk)(x:Entry):adE own d ls loc lab l r (l0::s) (some x)=if x.goes own=true∧(l0.get (newLab lab l ls)).isNone then adoptAll own d ls loc lab r (l0.put (newLab lab l ls) (x.map (renR own d loc ls s.length lab))::s) else none:=by
 simp[adE]
def entRefs(own:Bool)(d:Nat):Option Entry→List Nat
 |some x=>x.refs own d
 |none=>[]
@[simp] theorem entRefs_none:entRefs own d none=[]:=rfl
@[simp] theorem entRefs_cell(cs:List V):entRefs own d (some (.cell cs))=V.refsAll own d cs:=rfl
@[simp] theorem entRefs_arr(z:Nat)(es:List (List V)):entRefs own d (some (.arr z es))=es.flatMap (V.refsAll own d):=rfl
@[simp] theorem entRefs_mp(t kvs):entRefs own d (some (.mp t kvs))=[]:=rfl
@[simp] theorem entRefs_tok(n:Nat):entRefs own d (some (.tok n))=[]:=rfl
@[simp] theorem adK_cons(r:V)(l:Nat)(l0:Loc)(s:Stk):adK own loc r lab (l0::s) (l::ls)=
 (match dedup (dedup ((l::ls) ++(l::ls).flatMap fun l=>entRefs own (l0::s).length (loc.get l)) ++(dedup ((l::ls) ++(l::ls).flatMap fun l=>entRefs own (l0::s).length (loc.get l))).flatMap fun l=>entRefs own (l0::s).length (loc.get l))with
 |[]=>some (r.map (renR own (l0::s).length loc [] s.length lab),l0::s)
 |e::es=>(adoptAll own (l0::s).length (e::es) loc lab (e::es) (l0::s)).map fun s'=>(r.map (renR own (l0::s).length loc (e::es) s.length lab),s')):=by
 have h:(fun l=>entRefs own (l0::s).length (loc.get l))=fun l=>match loc.get l with|some x=>x.refs own (l0::s).length|_=>[]:=by
  funext l;cases loc.get l<;>rfl
 simp only[h,adK,dep_cons,List.isEmpty_cons,Bool.false_eq_true,if_false]
 generalize dedup (_ ++_)=q
 cases q<;>rfl
end
section
variable {α : Type} (f : α → List V)
@[simp] theorem es_refs(own:Bool)(d:Nat)(h: ∀x,V.refsAll own d (f x)=[])(l:List α):(es f l).flatMap (V.refsAll own d)=[]:=by
 simp[es,h,List.flatMap]
end
section
variable {α : Type} (f : α → List V)
theorem appmK_es(esz bytes lab loc)(r:Stk)(z c' z':_)(l:List α)(h1:l.length*bytes≤140737488355328)(h2:l.length<140737488355328)(h3:z=esz)(h4:z'=esz)(h6:Loc.get loc lab=none):
 appmK esz bytes lab (loc::r) (.sl .full z []) (.sl c' z' (es f l))=some (.asl r.length lab esz l.length 0 l.length,loc.put lab (.arr esz (es f l))::r):=by
 rw[appmK_sl _ _ _ _ _ _ _ _ _ (by simpa using h1) (by simpa using h2) (.inl h3) (.inl h4) h6,es_length]
theorem appmD_es(esz bytes lab loc)(r:Stk)(z c' z':_)(l:List α)(h1:l.length*bytes≤140737488355328)(h2:l.length<140737488355328)(h3:z=esz)(h4:z'=esz)(h6:Loc.get loc lab=none):
 appmD esz bytes lab loc r (.sl .full z []) (.sl c' z' (es f l))=some (.asl r.length lab esz l.length 0 l.length,[(lab, .arr esz (es f l))]):=by
 rw[appmD_sl _ _ _ _ _ _ _ _ _ (by simpa using h1) (by simpa using h2) (.inl h3) (.inl h4) h6,es_length]
end
end Go.Ab

/-
  For simp: maps.
-/
namespace Go.Ab
section
variable {T : Tab} {dst : Option Nat} {g : Option (Nat × Bool)} {pre hide : List Nat} {e : Env} {s : Stk}
@[simp] theorem keyInts_int(n):keyInts none (.int .i64 n)=some [n]:=rfl
@[simp] theorem keyInts_agg(m cs):keyInts (some m) (.agg cs)=if cs.length=m then intsOf cs else none:=rfl
@[simp] theorem intsOf_nil:intsOf []=some []:=rfl
def consI(n:Int):Option (List Int)→Option (List Int)
 |some l=>some (n::l)
 |none=>none
@[simp] theorem consI_some(n l):consI n (some l)=some (n::l):=rfl
@[simp] theorem intsOf_cons(n r):intsOf (.int .i64 n::r)=consI n (intsOf r):=by simp only[intsOf];cases intsOf r<;>rfl
def mgetN(ok:Bool)(s:Stk)(kvs:List (List Int×Int)):Option (List Int)→Option (V×Stk)
 |some ns=>some (if ok then .tup [i64 ((kvGet kvs ns).getD 0), .bool (kvGet kvs ns).isSome]else i64 ((kvGet kvs ns).getD 0),s)
 |none=>none
@[simp] theorem mgetN_ok(s kvs ns):mgetN true s kvs (some ns)=some (.tup [i64 ((kvGet kvs ns).getD 0), .bool (kvGet kvs ns).isSome],s):=rfl
@[simp] theorem mgetN_val(s kvs ns):mgetN false s kvs (some ns)=some (i64 ((kvGet kvs ns).getD 0),s):=rfl
def mgetE(t:Option Nat)(ok:Bool)(s:Stk)(ns:Option (List Int)):Option Entry→Option (V×Stk)
 |some (.mp t' kvs)=>if t=t' then mgetN ok s kvs ns else none
 |_=>none
@[simp] theorem mgetE_mp(t ok s ns t' kvs):mgetE t ok s ns (some (.mp t' kvs))=if t=t' then mgetN ok s kvs ns else none:=rfl
def mgetK(t:Option Nat)(ok:Bool)(s:Stk)(ns:Option (List Int)):V→Option (V×Stk)
 | .mp (.ptr d l o)=>if o=0 then mgetE t ok s ns (sget s d l)else none
 |_=>none
@[simp] theorem mgetK_mp(t ok s ns d l):mgetK t ok s ns (.mp (.ptr d l 0))=mgetE t ok s ns (sget s d l):=rfl
def mputE(t:Option Nat)(d l:Nat)(n:Int)(s:Stk)(ns:List Int):Option Entry→Option (V×Stk)
 |some (.mp t' kvs)=>if t=t' then some (.undef,sput s d l (.mp t (kvPut kvs ns n)))else none
 |_=>none
@[simp] theorem mputE_mp(t d l n s ns t' kvs):mputE t d l n s ns (some (.mp t' kvs))=if t=t' then some (.undef,sput s d l (.mp t (kvPut kvs ns n))) else none:=rfl
def mputK(t:Option Nat)(s:Stk)(ns:Option (List Int))(m v:V):Option (V×Stk):=match ns with
 |some ns=>(match m,v with
   | .mp (.ptr d l o), .int .i64 n=>if o=0 then mputE t d l n s ns (sget s d l)else none
   |_,_=>none)
 |none=>none
@[simp] theorem mputK_mp(t s ns d l n):mputK t s (some ns) (.mp (.ptr d l 0)) (.int .i64 n)=mputE t d l n s ns (sget s d l):=rfl
def mentE(t:Option Nat)(d l:Nat)(s:Stk)(ns:List Int):Option Entry→Option (V×Stk)
 |some (.mp t' kvs)=>if t=t' then some (.tup [i64 ((kvGet kvs ns).getD 0),i64 (kvIdx kvs ns)],sput s d l (.mp t (kvPut kvs ns ((kvGet kvs ns).getD 0))))else none
 |_=>none
@[simp] theorem mentE_mp(t d l s ns t' kvs):mentE t d l s ns (some (.mp t' kvs))=if t=t' then some (.tup [i64 ((kvGet kvs ns).getD 0),i64 (kvIdx kvs ns)],sput s d l (.mp t (kvPut kvs ns ((kvGet kvs ns).getD 0)))) else none:=rfl
def mentK(t:Option Nat)(s:Stk)(ns:Option (List Int))(m:V):Option (V×Stk):=match ns with
 |some ns=>(match m with
   | .mp (.ptr d l o)=>if o=0 then mentE t d l s ns (sget s d l)else none
   |_=>none)
 |none=>none
@[simp] theorem mentK_mp(t s ns d l):mentK t s (some ns) (.mp (.ptr d l 0))=mentE t d l s ns (sget s d l):=rfl
def mestE(d l:Nat)(j n:Int)(s:Stk):Option Entry→Option (V×Stk)
 |some (.mp t kvs)=>if 0≤j∧j<kvs.length then some (.undef,sput s d l (.mp t (kvSet kvs j.toNat n)))else none
 |_=>none
@[simp] theorem mestE_mp(d l j n s t kvs):mestE d l j n s (some (.mp t kvs))=if 0≤j∧j<kvs.length then some (.undef,sput s d l (.mp t (kvSet kvs j.toNat n))) else none:=rfl
def mestK(s:Stk)(m i v:V):Option (V×Stk):=match m,i,v with
 | .mp (.ptr d l o), .int .i64 j, .int .i64 n=>if o=0 then mestE d l j n s (sget s d l)else none
 |_,_,_=>none
@[simp] theorem mestK_mp(s d l j n):mestK s (.mp (.ptr d l 0)) (.int .i64 j) (.int .i64 n)=mestE d l j n s (sget s d l):=rfl
end
end Go.Ab

/-
  Loops that gather, and may leave with something behind in their frame.
-/
namespace Go.Ab
section
variable {T : Tab}
def foldO {α σ:Type}(step:σ→α→Option σ):List α→σ→Option σ
 |[],a=>some a
 |x::r,a=>match step a x with
   |some a'=>foldO step r a'
   |none=>none
theorem loop_list_g {live keep:List Nat} {b:AC} {α σ γ:Type} [Inhabited γ](l:List α)(I:Nat→σ→Prop)(E:Nat→σ→Env)(S:Nat→σ→Stk)(step:σ→α→Option σ)(q:γ→Ex×Env×Stk)(fin:σ→Ex×Env×Stk)(hq: ∀g,(q g).1≠ .normal)(hn: ∀a,(fin a).1≠ .normal)
 (hs: ∀k a (hk:k<l.length),I k a→(∀a',step a l[k]=some a'→gcN live keep (Run T b (E k a) (S k a))=some (.normal,E (k+1) a',S (k+1) a')∧I (k+1) a')∧(step a l[k]=none→ ∃g,Run T b (E k a) (S k a)=some (q g)))
 (hf: ∀a,I l.length a→Run T b (E l.length a) (S l.length a)=some (fin a)) (a:σ) (h0:I 0 a) (e:Env) (s:Stk) (he:gcEnv live keep e s=E 0 a) (hse:gcStk keep s=S 0 a):
 ∃g,Run T (.loop live keep b) e s=match foldO step l a with|some b=>some (fin b)|none=>some (q g):=by
 have key: ∀m k a,k+m=l.length→I k a→ ∃g,∀e s,gcEnv live keep e s=E k a→gcStk keep s=S k a→Run T (.loop live keep b) e s=match foldO step (l.drop k) a with|some b=>some (fin b)|none=>some (q g):=by
  intro m
  induction m with
  |zero=>
    intro k a hk hi
    refine⟨default,fun e s he hse=> ?_⟩
    obtain rfl:k=l.length:=by omega
    rw[run_head _ _ _ _ _ he hse,hf a hi]
    have:=hn a
    rw[List.drop_eq_nil_of_le (Nat.le_refl _)]
    simp only[foldO]
    generalize fin a=r at this
    obtain⟨ex,e,s⟩:=r
    cases ex<;>simp_all [thenRun]
  |succ m ih=>
    intro k a hk hi
    have hlt:k<l.length:=by omega
    obtain⟨h1,h2⟩:=hs k a hlt hi
    rw[List.drop_eq_getElem_cons hlt]
    simp only[foldO]
    cases hst:step a l[k]with
    |some a'=>
      obtain⟨k1,k2⟩:=h1 a' hst
      obtain⟨g2,k3⟩:=ih (k+1) a' (by omega) k2
      refine⟨g2,fun e s he hse=> ?_⟩
      rw[run_head _ _ _ _ _ he hse]
      cases hr:Run T b (E k a) (S k a)with
      |none=>rw[hr]at k1;cases k1
      |some y=>
        obtain⟨ex,e1,s1⟩:=y
        rw[hr]at k1
        cases ex with
        |normal=>
          simp only[gcN_normal,Option.some.injEq,Prod.mk.injEq,true_and]at k1
          rw[thenRun_normal,k3 e1 s1 k1.1 k1.2]
        |exit id=>simp at k1
        |ret=>simp at k1
    |none=>
      obtain⟨g1,k1⟩:=h2 hst
      refine⟨g1,fun e s he hse=> ?_⟩
      rw[run_head _ _ _ _ _ he hse,k1]
      have:=hq g1
      simp only
      generalize q g1=r at this
      obtain⟨ex,e1,s1⟩:=r
      cases ex<;>simp_all [thenRun]
 obtain⟨g,h⟩:=key l.length 0 a (by omega) h0
 exact⟨g,by rw[h e s he hse];simp⟩
end
section
variable {α : Type} (f : α → List V)
theorem appK_own1(esz bytes lab loc)(r:Stk)(l:Nat)(a:List α)(c' z' y)(h1:(a.length+1)*bytes≤140737488355328)(h2:a.length+1<140737488355328)(h4:z'=esz)(h6:Loc.get loc l=some (.tok a.length)):
 appK esz bytes lab (loc::r) (.sl (.own r.length l) esz (es f a)) (.sl c' z' [y])=some (.sl (.own r.length l) esz (es f a ++[y]),loc.put l (.tok (a.length+1))::r):=by
 have:=appK_own esz bytes lab loc r l (es f a) c' z' [y] (by simpa using h1) (by simpa using h2) (.inl h4) (by simpa using h6)
 simpa using this
end
section
variable {α : Type} (f : α → List V)
theorem appD_full1(esz bytes lab vis)(rest:Stk)(z:Nat)(a:List α)(c' z' y)(h1:(a.length+1)*bytes≤140737488355328)(h2:a.length+1<140737488355328)(h3:z=esz)(h4:z'=esz)(h6:Loc.get vis lab=none):
 appD esz bytes lab vis rest (.sl .full z (es f a)) (.sl c' z' [y])=some (.sl (.own rest.length lab) esz (es f a ++[y]),[(lab, .tok (a.length+1))]):=by
 have:=appD_full esz bytes lab vis rest z (es f a) c' z' [y] (by simpa using h1) (by simpa using h2) (.inl h3) (.inl h4) (by simp) h6
 simpa using this
end
def foldB {α σ:Type}(step:σ→α→σ×Bool):List α→σ→σ×Bool
 |[],a=>(a,true)
 |x::r,a=>if (step a x).2=true then foldB step r (step a x).1 else(step a x)
section
variable {T : Tab}
theorem loop_list_e {live keep:List Nat} {b:AC} {α σ γ:Type} [Inhabited γ](l:List α)(I:Nat→σ→Prop)(E:Nat→σ→Env)(S:Nat→σ→Stk)(step:σ→α→σ×Bool)(q:γ→σ→Ex×Env×Stk)(fin:σ→Ex×Env×Stk)(hq: ∀g a,(q g a).1≠ .normal)(hn: ∀a,(fin a).1≠ .normal)
 (hs: ∀k a (hk:k<l.length),I k a→((step a l[k]).2=true→gcN live keep (Run T b (E k a) (S k a))=some (.normal,E (k+1) (step a l[k]).1,S (k+1) (step a l[k]).1)∧I (k+1) (step a l[k]).1)∧((step a l[k]).2=false→ ∃g,Run T b (E k a) (S k a)=some (q g (step a l[k]).1)))
 (hf: ∀a,I l.length a→Run T b (E l.length a) (S l.length a)=some (fin a)) (a:σ) (h0:I 0 a) (e:Env) (s:Stk) (he:gcEnv live keep e s=E 0 a) (hse:gcStk keep s=S 0 a):
 ∃g,Run T (.loop live keep b) e s=if (foldB step l a).2=true then some (fin (foldB step l a).1)else some (q g (foldB step l a).1):=by
 have key: ∀m k a,k+m=l.length→I k a→ ∃g,∀e s,gcEnv live keep e s=E k a→gcStk keep s=S k a→Run T (.loop live keep b) e s=if (foldB step (l.drop k) a).2=true then some (fin (foldB step (l.drop k) a).1)else some (q g (foldB step (l.drop k) a).1):=by
  intro m
  induction m with
  |zero=>
    intro k a hk hi
    refine⟨default,fun e s he hse=> ?_⟩
    obtain rfl:k=l.length:=by omega
    rw[run_head _ _ _ _ _ he hse,hf a hi]
    have:=hn a
    rw[List.drop_eq_nil_of_le (Nat.le_refl _)]
    simp only[foldB,if_true]
    generalize fin a=r at this
    obtain⟨ex,e,s⟩:=r
    cases ex<;>simp_all [thenRun]
  |succ m ih=>
    intro k a hk hi
    have hlt:k<l.length:=by omega
    obtain⟨h1,h2⟩:=hs k a hlt hi
    rw[List.drop_eq_getElem_cons hlt]
    by_cases hst:(step a l[k]).2=true
    ·have e1:foldB step (l[k]::l.drop (k+1)) a=foldB step (l.drop (k+1)) (step a l[k]).1:=by simp only[foldB,if_pos hst]
     rw[e1]
     obtain⟨k1,k2⟩:=h1 hst
     obtain⟨g2,k3⟩:=ih (k+1) _ (by omega) k2
     refine⟨g2,fun e s he hse=> ?_⟩
     rw[run_head _ _ _ _ _ he hse]
     cases hr:Run T b (E k a) (S k a)with
     |none=>rw[hr]at k1;cases k1
     |some y=>
       obtain⟨ex,e1,s1⟩:=y
       rw[hr]at k1
       cases ex with
       |normal=>
         simp only[gcN_normal,Option.some.injEq,Prod.mk.injEq,true_and]at k1
         rw[thenRun_normal,k3 e1 s1 k1.1 k1.2]
       |exit id=>simp at k1
       |ret=>simp at k1
    ·have e1:foldB step (l[k]::l.drop (k+1)) a=step a l[k]:=by simp only[foldB,if_neg hst]
     rw[e1]
     obtain⟨g1,k1⟩:=h2 (by simpa using hst)
     refine⟨g1,fun e s he hse=> ?_⟩
     rw[if_neg hst,run_head _ _ _ _ _ he hse,k1]
     have:=hq g1 (step a l[k]).1
     generalize q g1 (step a l[k]).1=r at this
     obtain⟨ex,e1,s1⟩:=r
     cases ex<;>simp_all [thenRun]
 obtain⟨g,h⟩:=key l.length 0 a (by omega) h0
 exact⟨g,by rw[h e s he hse];simp⟩
end
theorem foldB_append {α σ:Type}(step:σ→α→σ×Bool): ∀(l r:List α) (a:σ),foldB step (l ++r) a=if (foldB step l a).2=true then foldB step r (foldB step l a).1 else foldB step l a
 |[],r,a=>by simp[foldB]
 |x::l,r,a=>by
   simp only[List.cons_append,foldB]
   by_cases h:(step a x).2=true
   ·simp only[h,if_true,foldB_append step l r]
   ·simp only[h,Bool.false_eq_true,if_false]
theorem foldB_flatMap {α β σ:Type}(step:σ→β→σ×Bool)(g:α→List β): ∀(l:List α) (a:σ),foldB step (l.flatMap g) a=foldB (fun a x=>foldB step (g x) a) l a
 |[],a=>rfl
 |x::l,a=>by
   rw[List.flatMap_cons,foldB_append]
   simp only[foldB,foldB_flatMap step g l]
theorem sput_append(d l:Nat)(x:Entry): ∀(fr S:Stk),d<S.length→sput (fr ++S) d l x=fr ++sput S d l x
 |[],_,_=>rfl
 |y::fr,S,h=>by
   rw[List.cons_append,sput_cons,if_neg (by simp;omega),sput_append d l x fr S h]
   rfl
section
variable {T : Tab}
def yldB(ex:Ex):Bool:=match ex with| .normal=>true|_=>false
def yldE(ps:List Nat)(A B:AC)(env:Env)(ex:Ex):Entry:=match ex with
 | .normal=> .loop ps A B env .ready none
 |ex=> .loop ps A B env .done (some ex)
theorem yld_run {d l:Nat} {args:List V} {lab:Nat} {s s3:Stk} {ps:List Nat} {A B:AC} {env e1 e2:Env} {fr1 fr2:Loc} {st:LoopState} {p:Option Ex} {ex:Ex}
 (h1:sget s d l=some (.loop ps A B env .ready none)) (hl:args.length=ps.length) (hA:Run T A (bindEnv ps args env) ([]::s)=some (.normal,e1,fr1::s)) (hd:d<s.length)
 (hB:Run T B e1 (fr1::sput s d l (.loop ps A B env .busy none))=some (ex,e2,fr2::s3)) (h3:sget s3 d l=some (.loop ps A B env st p)):
 denV T (.yld d l) args lab s=some (.bool (yldB ex),sput s3 d l (yldE ps A B env ex)):=by
 have h2:sget (fr1::s) d l=some (.loop ps A B env .ready none):=by rw[sget_cons,if_neg (by omega),h1]
 have h4:sput (fr1::s) d l (.loop ps A B env .busy none)=fr1::sput s d l (.loop ps A B env .busy none):=by rw[sput_cons,if_neg (by omega)]
 simp only[denV,enterV,h1,hl,if_true,hA,h2,h4,hB,h3]
 cases ex<;>rfl
def rngK(l:Nat)(e:Env)(s:Stk)(d:Nat):Option Entry→Res
 |some (.loop ps' A' B' env .ready none)=>some (.normal,e,sput s d l (.loop ps' A' B' [] .exhausted none))
 |some (.loop ps' A' B' env .done (some ex))=>some (ex,e,sput s d l (.loop ps' A' B' [] .exhausted (some ex)))
 |_=>none
@[simp] theorem rngK_ready(l e s d ps A B env):rngK l e s d (some (.loop ps A B env .ready none))=some (.normal,e,sput s d l (.loop ps A B [] .exhausted none)):=rfl
@[simp] theorem rngK_done(l e s d ps A B env ex):rngK l e s d (some (.loop ps A B env .done (some ex)))=some (ex,e,sput s d l (.loop ps A B [] .exhausted (some ex))):=rfl
def rngR(l:Nat)(e:Env)(d:Nat):Option (V×Stk)→Res
 |some (_,s)=>rngK l e s d (sget s d l)
 |none=>none
@[simp] theorem rngR_some(l e d v s):rngR l e d (some (v,s))=rngK l e s d (sget s d l):=rfl
noncomputable def rngF(T:Tab)(l:Nat)(ps:List Nat)(A B:AC)(e:Env)(loc:Loc)(r:Stk):V→Res
 | .fn g first cap=>rngR l e r.length (den T g (first ++[.yld r.length l] ++cap) 0 (loc.put l (.loop ps A B e .ready none)::r))
 |_=>none
@[simp] theorem rngF_fn(l ps A B e loc)(r:Stk)(g first cap):rngF T l ps A B e loc r (.fn g first cap)=rngR l e r.length (den T g (first ++[.yld r.length l] ++cap) 0 (loc.put l (.loop ps A B e .ready none)::r)):=rfl
@[simp] theorem run_rng(site ps A B f e loc)(r:Stk):Run T (.rng site ps A B f) e (loc::r)=if (loc.get (16*site+7)).isNone then rngF T (16*site+7) ps A B e loc r (f.ev e) else none:=by
 rw[run_eq]
 simp only[step]
 have h0:sget (loc::r) (dep (loc::r)) (16*site+7)=loc.get (16*site+7):=by rw[dep_cons,sget_top]
 rw[h0]
 by_cases h:(loc.get (16*site+7)).isNone=true
 ·rw[if_pos ⟨h,by simp⟩,if_pos h]
  cases f.ev e<;>try rfl
  rename_i g first cap
  simp only[rngF,dep_cons,sput_top,den,rngR]
  cases enter T (Run T) g (first ++[.yld r.length (16*site+7)] ++cap) 0 (loc.put (16*site+7) (.loop ps A B e .ready none)::r)with
  |none=>rfl
  |some q=>
    obtain⟨v,s'⟩:=q
    dsimp only
    cases sget s' r.length (16*site+7)<;>rfl
 ·rw[if_neg (fun hh=>h hh.1),if_neg h]
theorem orSlow_none(A B live e loc)(rest:Stk)(hc:splOk A B=true):
 orSlow T (spl A B) live e (loc::rest) none=drawnK T B loc rest live e (runDrawn T (Run T) loc rest e A 0 []):=by
 rw[orSlow,slowDrawn_eq,run_drawnK _ _ _ _ _ _ hc]
end
section
def appA(esz bytes d l z q o k:Nat)(s:Stk)(z':Nat)(fs:List (List V)):Option Entry→Option (V×Stk)
 |some (.arr z0 es)=>if (es.length+fs.length)*bytes≤140737488355328∧es.length+fs.length<140737488355328∧q=es.length∧o=0∧k=q∧z=esz∧z0=esz∧(z'=esz∨fs=[])then
  (if fs=[]then some (.asl d l z q 0 k,s)else some (.asl d l esz (es.length+fs.length) 0 (es.length+fs.length),sput s d l (.arr esz (es ++fs))))else none
 |some (.harr lo z0 es)=>if (es.length+fs.length)*bytes≤140737488355328∧es.length+fs.length<140737488355328∧q=es.length∧o=0∧k=q∧z=esz∧z0=esz∧z'=esz∧fs≠[]∧d=dep s then
  some (.asl d l esz (es.length+fs.length) 0 (es.length+fs.length),sput s d l (.harr lo esz (es ++fs)))else none
 |_=>none
@[simp] theorem appK_asl(esz bytes lab s d l z q o k c' z' fs):appK esz bytes lab s (.asl d l z q o k) (.sl c' z' fs)=appA esz bytes d l z q o k s z' fs (sget s d l):=by
 simp only[appK]
 cases h:sget s d l with
 |none=>simp[appA]
 |some x=>
   cases x<;>simp only[appA]<;>try (simp;done)
variable {α : Type} (f : α → List V)
theorem appA_one(esz bytes d l q s z' y)(a:List α)(h1:(a.length+1)*bytes≤140737488355328)(h2:a.length+1<140737488355328)(h4:z'=esz)(h7:q=a.length):
 appA esz bytes d l esz q 0 q s z' [y] (some (.arr esz (es f a)))=some (.asl d l esz (a.length+1) 0 (a.length+1),sput s d l (.arr esz (es f a ++[y]))):=by
 subst h7
 simp[appA,h1,h2,h4]
def appDA(esz bytes d l z q o k D:Nat)(z':Nat)(fs:List (List V)):Option Entry→Option (V×Loc)
 |some (.arr z0 es)=>if (es.length+fs.length)*bytes≤140737488355328∧es.length+fs.length<140737488355328∧q=es.length∧o=0∧k=q∧z=esz∧z0=esz∧(z'=esz∨fs=[])then
  (if fs=[]then some (.asl d l z q 0 k,[])else if d=D then some (.asl d l esz (es.length+fs.length) 0 (es.length+fs.length),[(l, .arr esz (es ++fs))])else none)else none
 |some (.harr lo z0 es)=>if (es.length+fs.length)*bytes≤140737488355328∧es.length+fs.length<140737488355328∧q=es.length∧o=0∧k=q∧z=esz∧z0=esz∧z'=esz∧fs≠[]∧d=D then
  some (.asl d l esz (es.length+fs.length) 0 (es.length+fs.length),[(l, .harr lo esz (es ++fs))])else none
 |_=>none
@[simp] theorem appD_asl(esz bytes lab vis)(rest:Stk)(d l z q o k c' z' fs):appD esz bytes lab vis rest (.asl d l z q o k) (.sl c' z' fs)=appDA esz bytes d l z q o k rest.length z' fs (sget (vis::rest) d l):=by
 simp only[appD]
 cases h:sget (vis::rest) d l with
 |none=>simp[appDA]
 |some x=>
   cases x with
   |arr z0 es=>
     simp only[appDA]
     split
     ·split
      ·simp
      ·simp only[effD]
     ·simp
   |harr lo z0 es=>
     simp only[appDA,dep,List.length_cons,Nat.add_sub_cancel]
     split
     ·rename_i hc
      simp only[effD]
      rw[if_pos hc.2.2.2.2.2.2.2.2.2]
     ·simp
   |_=>simp[appDA]
end
end Go.Ab

/-
  Arguments: what reads as data of a type made of bools, integers, structs and slices reads as a value of its shape.
-/
namespace Go.Ab
section
variable {H : Type} {enc : TypeId × Value → H} {P : Program} {w : World}
def okFs(P:Program)(g:TypeId→Bool)(tot:Nat):List Field→Nat→Bool
 |[],off=>decide (off=tot)
 |f::fs,off=>decide (f.offset=off)&&g f.type&&okFs P g tot fs (off+P.cellsOf f.type)
def okTy(P:Program):Nat→TypeId→Bool
 |0,_=>false
 |n+1,t=>match P.underlying t with
   |some .bool=>decide (P.cellsOf t=1)
   |some (.int _)=>decide (P.cellsOf t=1)
   |some (.slice e)=>decide (P.cellsOf t=1)&&decide (0<P.cellsOf e)&&okTy P n e
   |some (.struct fs)=>okFs P (okTy P n) (P.cellsOf t) fs.toList 0
   |_=>false
def FitF(g:TypeId→List V→Prop):List Field→List V→Prop
 |[],vs=>vs=[]
 |f::fs,vs=> ∃a b,vs=a ++b∧g f.type a∧FitF g fs b
def Fit(P:Program)(B:TypeId→Nat→Prop):Nat→TypeId→List V→Prop
 |0,_,_=>False
 |n+1,t,vs=>match P.underlying t with
   |some .bool=> ∃b,vs=[.bool b]
   |some (.int k)=> ∃x,vs=[.int k x]
   |some (.slice e)=> ∃l,vs=[.sl .no (P.cellsOf e) l]∧B e l.length∧ ∀x∈l,Fit P B n e x
   |some (.struct fs)=>FitF (Fit P B n) fs.toList vs
   |_=>False
theorem rdAll_some {g:DataW H→Option (List V)} {Q:List V→Prop}: ∀(ds:List (DataW H)),(∀d∈ds,∃a,g d=some a∧Q a)→ ∃xs,rdAll g ds=some xs∧xs.length=ds.length∧ ∀x∈xs,Q x
 |[],_=>⟨[],rfl,rfl,by simp⟩
 |d::r,h=>by
   obtain⟨a,h1,h2⟩:=h d (by simp)
   obtain⟨xs,h3,h4,h5⟩:=rdAll_some r fun d hd=>h d (by simp[hd])
   refine⟨a::xs,by simp[rdAll,h1,h3],by simp[h4],?_⟩
   intro x hx
   rcases List.mem_cons.1 hx with rfl|hx
   ·exact h2
   ·exact h5 x hx
theorem rdF_some {g:TypeId→DataW H→Option (List V)} {g':TypeId→Bool} {Q:TypeId→List V→Prop} {tot:Nat}: ∀(fs:List Field) (off:Nat) (ds:List (DataW H)),okFs P g' tot fs off=true→ds.length=fs.length→
 (∀(i:Nat) f d,fs[i]? =some f→ds[i]? =some d→g' f.type=true→ ∃a,g f.type d=some a∧Q f.type a∧a.length=P.cellsOf f.type)→ ∃vs,rdF P g tot fs off ds=some vs∧FitF Q fs vs∧off+vs.length=tot
 |[],off,[],h,_,_=>by
   simp only[okFs,decide_eq_true_eq]at h
   exact⟨[],by simp[rdF,h],rfl,by simpa using h⟩
 |f::fs,off,d::ds,h,hl,hf=>by
   simp only[okFs,Bool.and_eq_true,decide_eq_true_eq]at h
   obtain⟨⟨h1,h2⟩,h3⟩:=h
   obtain⟨a,k1,k2,k3⟩:=hf 0 f d rfl rfl h2
   obtain⟨b,k4,k5,k6⟩:=rdF_some fs _ ds h3 (by simpa using hl) fun i f d q1 q2 q3=>hf (i+1) f d (by simpa using q1) (by simpa using q2) q3
   refine⟨a ++b,?_,⟨a,b,rfl,k2,k5⟩,by simp[k3];omega⟩
   simp only[rdF,h1,if_true,k1,k4,k3]
 |[],_,_::_,_,hl,_=>by simp at hl
 |_::_,_,[],_,hl,_=>by simp at hl
theorem rd_fit {sp:Nat→Bool} {good:TypeId→DataW H→Prop} {B:TypeId→Nat→Prop}(g0: ∀e,B e 0)(ga: ∀t fs ps,P.underlying t=some (.struct fs)→good t (.agg ps)→ ∀(i:Nat) f d,fs[i]? =some f→ps[i]? =some d→good f.type d)
 (gs: ∀t e es r,P.underlying t=some (.slice e)→good t (.slice es r)→(es.length≤maxLen→B e es.length)∧ ∀d∈es,good e d):
 ∀(n:Nat) {t:TypeId} {cs:List Value} {d:DataW H} {ps:List MemPlace} {m:Nat},okTy P n t=true→DataW.trod enc P w 0 sp true m t cs=some (d,ps)→good t d→ ∃vs,rd P n t d=some vs∧Fit P B n t vs∧vs.length=P.cellsOf t
 |0,_,_,_,_,_,h,_,_=>by simp[okTy]at h
 |n+1,t,cs,d,ps,m,h,ht,hg=>by
   simp only[okTy]at h
   split at h
   ·rename_i hu
    obtain⟨b,rfl,hx⟩:=DataW.trod_bool hu ht
    cases hx
    exact⟨[.bool b],by simp[rd,hu],by simp[Fit,hu],by simpa using (of_decide_eq_true h).symm⟩
   ·rename_i k hu
    obtain⟨x,rfl,hx,_⟩:=DataW.trod_int hu ht
    cases hx
    exact⟨[.int k x],by simp[rd,hu],by simp[Fit,hu],by simpa using (of_decide_eq_true h).symm⟩
   ·rename_i e hu
    simp only[Bool.and_eq_true,decide_eq_true_eq]at h
    obtain⟨⟨h1,h2⟩,h3⟩:=h
    rcases DataW.trod_slice hu ht with ⟨rfl,hx⟩|⟨a,len,cap,elems,rest,n',rfl,rfl,hx,_,hl,hmax,hlen,hel,_,_⟩
    ·cases hx
     exact⟨[.sl .no (P.cellsOf e) []],by simp[rd,hu],by simp[Fit,hu,g0],by simp[h1]⟩
    ·cases hx
     obtain⟨g1,g2⟩:=gs _ _ _ _ hu hg
     obtain⟨xs,k1,k2,k3⟩:=rdAll_some (g:=rd P n e) (Q:=Fit P B n e) (elems.map (·.1)) (fun d hd=>by
      obtain⟨i,hi,rfl⟩:=List.getElem_of_mem hd
      simp only[List.length_map]at hi
      have h4:=hel i (by omega)
      rw[List.getElem?_eq_getElem hi]at h4
      obtain⟨cs',q1,q2⟩:=Option.bind_eq_some_iff.1 h4
      obtain⟨vs,q3,q4,_⟩:=rd_fit g0 ga gs n (d:=elems[i].1) (ps:=elems[i].2) h3 q2 (g2 _ (List.mem_map.2 ⟨elems[i],List.getElem_mem hi,rfl⟩))
      exact⟨vs,by simpa using q3,q4⟩)
     refine⟨[.sl .no (P.cellsOf e) xs],?_,?_,by simp[h1]⟩
     ·simp[rd,hu,h2,k1]
     ·simp only[Fit,hu]
      exact⟨xs,rfl,by rw[k2];exact g1 (by simp;omega),k3⟩
   ·rename_i fs hu
    obtain⟨xs,n',rfl,hx,hcl,hxl,hf⟩:=DataW.trod_struct hu ht
    cases hx
    obtain⟨vs,k1,k2,k3⟩:=rdF_some (g:=rd P n) (Q:=Fit P B n) fs.toList 0 (xs.map (·.1)) h (by simp[hxl]) (fun i f d q1 q2 q3=>by
     have q1':fs[i]? =some f:=by simpa using q1
     have h2:=hf i f q1'
     rw[List.getElem?_map]at q2
     obtain⟨y,hy,rfl⟩:=Option.map_eq_some_iff.1 q2
     rw[hy]at h2
     exact rd_fit g0 ga gs n (d:=y.1) (ps:=y.2) q3 h2 (ga _ _ _ hu hg i f y.1 q1' (by rw[List.getElem?_map,hy];rfl)))
    exact⟨vs,by simp[rd,hu,k1],by simp[Fit,hu,k2],by omega⟩
   ·cases h
theorem es_of {α:Type} {f:α→List V} {Q:α→Prop}: ∀(l:List (List V)),(∀x∈l,∃y,x=f y∧Q y)→ ∃l':List α,l=l'.map f∧ ∀y∈l',Q y
 |[],_=>⟨[],rfl,by simp⟩
 |x::l,h=>by
   obtain⟨y,rfl,hq⟩:=h x (by simp)
   obtain⟨l',rfl,hl⟩:=es_of l fun x hx=>h x (by simp[hx])
   refine⟨y::l',rfl,?_⟩
   intro z hz
   rcases List.mem_cons.1 hz with rfl|hz
   ·exact hq
   ·exact hl z hz
def heavy(P:Program)(t:TypeId)(d:DataW H):Prop:= ∀x∈DataW.weights P t d,x≤reachBytes
theorem weightsAll_mem {e:TypeId} {d:DataW H} {x:Nat}: ∀ {ds:List (DataW H)},d∈ds→x∈DataW.weights P e d→x∈DataW.weightsAll P e ds
 |y::ds,h,hx=>by
   simp only[DataW.weightsAll,List.mem_append]
   rcases List.mem_cons.1 h with rfl|h
   ·exact .inl hx
   ·exact .inr (weightsAll_mem h hx)
theorem heavy_agg(t:TypeId)(fs:Array Field)(ps:List (DataW H))(hu:P.underlying t=some (.struct fs))(h:heavy P t (.agg ps))(i:Nat)(f:Field)(d:DataW H)(hf:fs[i]? =some f)(hd:ps[i]? =some d):heavy P f.type d:=by
 intro x hx
 refine h x ?_
 simp only[DataW.weights,hu]
 exact DataW.weights_mem_each (j:=i) (by simp[hf]) hd x hx
theorem heavy_slice(t e:TypeId)(es r:List (DataW H))(hu:P.underlying t=some (.slice e))(h:heavy P t (.slice es r)):(es.length≤maxLen→es.length≤maxLen∧es.length*P.bytesOf e≤reachBytes)∧ ∀d∈es,heavy P e d:=by
 have h1:=h ((es.length+r.length)*P.bytesOf e) (by simp[DataW.weights,hu])
 refine⟨fun hm=>⟨hm,Nat.le_trans (Nat.mul_le_mul_right _ (by omega)) h1⟩,fun d hd x hx=>h x ?_⟩
 simp only[DataW.weights,hu,List.mem_cons,List.mem_append]
 exact .inr (.inl (weightsAll_mem hd hx))
theorem arg_fit {sp:Nat→Bool} {good:TypeId→DataW H→Prop} {B:TypeId→Nat→Prop}(g0: ∀e,B e 0)(ga: ∀t fs ps,P.underlying t=some (.struct fs)→good t (.agg ps)→ ∀(i:Nat) f d,fs[i]? =some f→ps[i]? =some d→good f.type d)
 (gs: ∀t e es r,P.underlying t=some (.slice e)→good t (.slice es r)→(es.length≤maxLen→B e es.length)∧ ∀d∈es,good e d)
 (n:Nat) {t:TypeId} {cs:List Value} {d:DataW H} {ps:List MemPlace} {m:Nat} (ht:okTy P n t=true) (h:DataW.trod enc P w 0 sp true m t cs=some (d,ps)) (hg:good t d): ∃vs,Fit P B n t vs∧LR 0 w γ0 vs cs∧V.elemAll vs=true:=by
 obtain⟨vs,h1,h2,_⟩:=rd_fit g0 ga gs n ht h hg
 exact⟨vs,h2,rd_vr n h h1⟩
theorem arg_agg {t:TypeId} {fs:Array Field} {v:Value} {r:Reach} {b0:Nat} {vs:List V}(hu:P.underlying t=some (.struct fs))(hval:Value.okWide P w r b0 t v)(h:LR 0 w γ0 vs v.cells.toList):VR 0 w γ0 (.agg vs) v:=by
 simp only[Value.okWide,hu]at hval
 obtain⟨cs,rfl,_,_⟩:=hval
 simp only[Value.cells]at h
 exact .agg _ _ (by simpa using h.1) fun i v u h1 h2=>h.2 i v u h1 (by simpa using h2)
theorem heavy_of {ts:List TypeId} {ds:List (DataW H)}(hz:(DataW.weightsEach P ts ds).all (· ≤reachBytes)=true)(j:Nat) {t:TypeId} {d:DataW H}(ht:ts[j]? =some t)(hd:ds[j]? =some d):heavy P t d:=
 fun x hx=>by simpa using List.all_eq_true.1 hz x (DataW.weights_mem_each ht hd x hx)
end
end Go.Ab

/-
  The evaluator's equations as a simp set: one small function a step, told by its constructors.
-/
import Derived.Test.YtmgkcipcjabigaaGreatDoorAb6
set_option linter.unusedSimpArgs false
set_option linter.unusedVariables false
namespace Go.Ab
@[reducible] def ao(d:Nat)(x:AOp):AOper:=⟨some d,x,none,[],[]⟩
@[reducible] def ap(d:Nat)(x:AOp)(pre:List Nat):AOper:=⟨some d,x,none,pre,[]⟩
@[reducible] def ag(d:Nat)(x:AOp)(g:Nat)(b:Bool)(pre:List Nat):AOper:=⟨some d,x,some (g,b),pre,[]⟩
@[simp] theorem ao_eq(d x):ao d x=⟨some d,x,none,[],[]⟩:=rfl
@[simp] theorem ap_eq(d x pre):ap d x pre=⟨some d,x,none,pre,[]⟩:=rfl
@[simp] theorem ag_eq(d x g b pre):ag d x g b pre=⟨some d,x,some (g,b),pre,[]⟩:=rfl
section
variable {T : Tab}
attribute [simp] bothRes_same run_skip run_label run_ret run_exit run_block run_scope run_seq thenRun_normal thenRun_ret thenRun_exit thenRun_ite blockRes_ite blockRes_normal blockRes_ret blockRes_exit Env.get V.stripAll V.strip argEnv V.map V.mapAll dedup patchAll distinct Loc.get Loc.put setAll V.elemAll V.pure V.pureAll V.oneAll idxOf newLab opdAll List.filter_cons
@[simp] theorem ev_t(e n):Opd.ev e (.t n)=e.get n:=rfl
@[simp] theorem ev_c(e v):Opd.ev e (.c v)=v:=rfl
@[simp] theorem setDst_some(d v e):setDst (some d) v e=(d,v)::e:=rfl
@[simp] theorem setDst_none(v e):setDst none v e=e:=rfl
@[simp] theorem capDrop_full(d keep):Cap.drop d keep .full= .full:=rfl
@[simp] theorem capDrop_no(d keep):Cap.drop d keep .no= .no:=rfl
@[simp] theorem capDrop_own(d keep d' l):Cap.drop d keep (.own d' l)=if d'=d∧l∉keep then .no else .own d' l:=rfl
@[simp] theorem idx_int(k n):V.idx (.int k n)=some n:=rfl
@[simp] theorem cells_undef:V.cells (.undef)=[.undef]:=rfl
@[simp] theorem isDef_skip:V.isDef (.skip)=false:=rfl
@[simp] theorem one_skip:V.one (.skip)=false:=rfl
@[simp] theorem isDef_undef:V.isDef (.undef)=false:=rfl
@[simp] theorem one_undef:V.one (.undef)=false:=rfl
@[simp] theorem cells_int(k n):V.cells (.int k n)=[.int k n]:=rfl
@[simp] theorem isDef_int(k n):V.isDef (.int k n)=true:=rfl
@[simp] theorem one_int(k n):V.one (.int k n)=true:=rfl
@[simp] theorem cells_bool(b):V.cells (.bool b)=[.bool b]:=rfl
@[simp] theorem isDef_bool(b):V.isDef (.bool b)=true:=rfl
@[simp] theorem one_bool(b):V.one (.bool b)=true:=rfl
@[simp] theorem cells_agg(cs):V.cells (.agg cs)=cs:=rfl
@[simp] theorem isDef_agg(cs):V.isDef (.agg cs)=true:=rfl
@[simp] theorem one_agg(cs):V.one (.agg cs)=false:=rfl
@[simp] theorem cells_tup(cs):V.cells (.tup cs)=[.tup cs]:=rfl
@[simp] theorem isDef_tup(cs):V.isDef (.tup cs)=true:=rfl
@[simp] theorem one_tup(cs):V.one (.tup cs)=false:=rfl
@[simp] theorem cells_nilp:V.cells (.nilp)=[.nilp]:=rfl
@[simp] theorem isDef_nilp:V.isDef (.nilp)=true:=rfl
@[simp] theorem one_nilp:V.one (.nilp)=true:=rfl
@[simp] theorem cells_ptr(d l o):V.cells (.ptr d l o)=[.ptr d l o]:=rfl
@[simp] theorem isDef_ptr(d l o):V.isDef (.ptr d l o)=true:=rfl
@[simp] theorem one_ptr(d l o):V.one (.ptr d l o)=true:=rfl
@[simp] theorem cells_ep(cs):V.cells (.ep cs)=[.ep cs]:=rfl
@[simp] theorem isDef_ep(cs):V.isDef (.ep cs)=true:=rfl
@[simp] theorem one_ep(cs):V.one (.ep cs)=true:=rfl
@[simp] theorem cells_sl(c z es):V.cells (.sl c z es)=[.sl c z es]:=rfl
@[simp] theorem isDef_sl(c z es):V.isDef (.sl c z es)=true:=rfl
@[simp] theorem one_sl(c z es):V.one (.sl c z es)=true:=rfl
@[simp] theorem cells_fn(f a b):V.cells (.fn f a b)=[.fn f a b]:=rfl
@[simp] theorem isDef_fn(f a b):V.isDef (.fn f a b)=true:=rfl
@[simp] theorem one_fn(f a b):V.one (.fn f a b)=true:=rfl
@[simp] theorem cells_nilf:V.cells (.nilf)=[.nilf]:=rfl
@[simp] theorem isDef_nilf:V.isDef (.nilf)=true:=rfl
@[simp] theorem one_nilf:V.one (.nilf)=true:=rfl
@[simp] theorem cells_yld(d l):V.cells (.yld d l)=[.yld d l]:=rfl
@[simp] theorem isDef_yld(d l):V.isDef (.yld d l)=true:=rfl
@[simp] theorem one_yld(d l):V.one (.yld d l)=true:=rfl
@[simp] theorem cells_asl(d l z n o k):V.cells (.asl d l z n o k)=[.asl d l z n o k]:=rfl
@[simp] theorem isDef_asl(d l z n o k):V.isDef (.asl d l z n o k)=true:=rfl
@[simp] theorem one_asl(d l z n o k):V.one (.asl d l z n o k)=true:=rfl
@[simp] theorem cells_csl(p n):V.cells (.csl p n)=[.csl p n]:=rfl
@[simp] theorem isDef_csl(p n):V.isDef (.csl p n)=true:=rfl
@[simp] theorem one_csl(p n):V.one (.csl p n)=true:=rfl
@[simp] theorem cells_mp(p):V.cells (.mp p)=[.mp p]:=rfl
@[simp] theorem isDef_mp(p):V.isDef (.mp p)=true:=rfl
@[simp] theorem one_mp(p):V.one (.mp p)=true:=rfl
@[simp] theorem cells_eptr(d l q i j):V.cells (.eptr d l q i j)=[.eptr d l q i j]:=rfl
@[simp] theorem isDef_eptr(d l q i j):V.isDef (.eptr d l q i j)=true:=rfl
@[simp] theorem one_eptr(d l q i j):V.one (.eptr d l q i j)=true:=rfl
@[simp] theorem aliveE_harr(q lo z es):(aliveE q (some (.harr lo z es))=true)=(lo≤q∧q≤es.length):=by simp[aliveE]
@[simp] theorem aliveE_arr(q z es):(aliveE q (some (.arr z es))=true)=(q=es.length):=by simp[aliveE]
@[simp] theorem capRen_own(own d ls d' lab a l):Cap.ren own d ls d' lab (.own a l)=if a=d then(if own&&ls.contains l then .own d' (newLab lab l ls) else .no) else .own a l:=rfl
@[simp] theorem capRen_full(own d ls d' lab):Cap.ren own d ls d' lab .full= .full:=rfl
@[simp] theorem capRen_no(own d ls d' lab):Cap.ren own d ls d' lab .no= .no:=rfl
@[simp] theorem goes_cell(own cs):Entry.goes own (.cell cs)=true:=rfl
@[simp] theorem goes_arr(own z es):Entry.goes own (.arr z es)=own:=rfl
@[simp] theorem goes_mp(own t kvs):Entry.goes own (.mp t kvs)=true:=rfl
@[simp] theorem goes_mq(own kvs):Entry.goes own (.mq kvs)=true:=rfl
@[simp] theorem goes_tok(own n):Entry.goes own (.tok n)=own:=rfl
attribute [simp] run_only
@[simp] theorem onlyRet_ret(e s):onlyRet (some (.ret,e,s))=some (.ret,e,s):=rfl
@[simp] theorem thenRun_none(k:AC):thenRun T none k=none:=rfl
@[simp] theorem blockRes_none(id:Nat):blockRes id none=none:=rfl
noncomputable def condK(T:Tab)(v:V)(a b:AC)(e:Env)(s:Stk):Res:=match v with
 | .bool true=>Run T a e s
 | .bool false=>Run T b e s
 | .anyb=>bothRes (Run T a e s) (Run T b e s)
 |_=>none
@[congr] theorem condK_congr {v v':V}(h:v=v')(a b:AC)(e:Env)(s:Stk):condK T v a b e s=condK T v' a b e s:=by rw[h]
@[simp] theorem run_condK(c a b e s):Run T (.cond c a b) e s=condK T (c.ev e) a b e s:=by
 rw[run_cond]
 cases c.ev e with
 |bool x=>cases x<;>rfl
 |_=>rfl
@[simp] theorem condK_any(a b:AC)(e:Env)(s:Stk):condK T .anyb a b e s=bothRes (Run T a e s) (Run T b e s):=rfl
@[simp] theorem condK_bool(x:Bool)(a b:AC)(e:Env)(s:Stk):condK T (.bool x) a b e s=if x=true then Run T a e s else Run T b e s:=by cases x<;>rfl
def onlyK(live:List Nat):Option (Env×Stk)→Res
 |some (e,s)=>some (.normal,e.only live,s)
 |none=>none
@[simp] theorem onlyK_some(live e s):onlyK live (some (e,s))=some (.normal,Env.only live e,s):=rfl
@[simp] theorem onlyK_none(live):onlyK live none=none:=rfl
@[simp] theorem onlyK_ite(live)(p:Prop) [Decidable p](x y):onlyK live (if p then x else y)=if p then onlyK live x else onlyK live y:=by split<;>rfl
@[simp] theorem run_regionK(ops live e s):Run T (.region false ops live) e s=onlyK live (runOps T (Run T) ops e s):=by
 rw[run_eq];simp only[step];cases runOps T (Run T) ops e s<;>rfl
@[simp] theorem only_nil(e:Env):Env.only [] e=[]:=rfl
@[simp] theorem only_cons(t:Nat)(r:List Nat)(e:Env):Env.only (t::r) e=(t,e.get t)::Env.only r e:=rfl
noncomputable def opThen(T:Tab)(r:List AOper)(dst:Option Nat)(e:Env):Option (V×Stk)→Option (Env×Stk)
 |some (v,s)=>runOps T (Run T) r (setDst dst v e) s
 |none=>none
@[simp] theorem opThen_some(r dst e v s):opThen T r dst e (some (v,s))=runOps T (Run T) r (setDst dst v e) s:=rfl
@[simp] theorem opThen_none(r dst e):opThen T r dst e none=none:=rfl
@[simp] theorem opThen_ite(r dst e)(p:Prop) [Decidable p](x y):opThen T r dst e (if p then x else y)=if p then opThen T r dst e x else opThen T r dst e y:=by split<;>rfl
@[simp] theorem runOps_nil(e s):runOps T (Run T) [] e s=some (e,s):=rfl
@[simp] theorem runOps_cons(dst op pre hide r e s):runOps T (Run T) (⟨dst,op,none,pre,hide⟩::r) e s=opThen T r dst e (op1 T (Run T) ⟨dst,op,none,pre,hide⟩ e s):=by
 simp only[runOps,opThen];cases op1 T (Run T) ⟨dst,op,none,pre,hide⟩ e s<;>rfl
noncomputable def guardK(T:Tab)(g:V)(want:Bool)(dst:Option Nat)(op:AOp)(pre hide:List Nat)(r:List AOper)(e:Env)(s:Stk):Option (Env×Stk):=match g with
 | .bool b=>if b=want then opThen T r dst e (op1 T (Run T) ⟨dst,op,none,pre,hide⟩ e s)else runOps T (Run T) r (setDst dst .skip e) s
 | .skip=>runOps T (Run T) r (setDst dst .skip e) s
 |_=>none
@[congr] theorem guardK_congr {g g':V}(h:g=g')(want dst op pre hide r e s):guardK T g want dst op pre hide r e s=guardK T g' want dst op pre hide r e s:=by rw[h]
@[simp] theorem runOps_guard(dst op g want pre hide r e s):runOps T (Run T) (⟨dst,op,some (g,want),pre,hide⟩::r) e s=guardK T (e.get g) want dst op pre hide r e s:=by
 simp only[runOps,guardK,opThen,op1]
 cases e.get g<;>rfl
@[simp] theorem guardK_skip(want dst op pre hide r e s):guardK T .skip want dst op pre hide r e s=runOps T (Run T) r (setDst dst .skip e) s:=rfl
@[simp] theorem guardK_bool(b want dst op pre hide r e s):guardK T (.bool b) want dst op pre hide r e s=if b=want then opThen T r dst e (op1 T (Run T) ⟨dst,op,none,pre,hide⟩ e s) else runOps T (Run T) r (setDst dst .skip e) s:=rfl
def effK(s:Stk):Option (V×Eff)→Option (V×Stk)
 |some (v,f)=>some (v,seff s f)
 |none=>none
@[simp] theorem effK_none(s):effK s none=none:=rfl
@[simp] theorem effK_pure(s v):effK s (some (v,none))=some (v,s):=rfl
@[simp] theorem effK_put(s v d l x):effK s (some (v,some (d,l,x)))=some (v,sput s d l x):=rfl
@[simp] theorem effK_ite(s)(p:Prop) [Decidable p](x y):effK s (if p then x else y)=if p then effK s x else effK s y:=by split<;>rfl
@[simp] theorem op1_call(d f args g pre hide e s):op1 T (Run T) ⟨some d, .call f args,g,pre,hide⟩ e s=den T f (V.stripAll (opdAll e args)) (16*d) s:=rfl
@[simp] theorem op1_callv(d x args g pre hide e s):op1 T (Run T) ⟨some d, .callv x args,g,pre,hide⟩ e s=denV T (x.ev e) (V.stripAll (opdAll e args)) (16*d) s:=rfl
@[simp] theorem op1_call'(f args g pre hide e s):op1 T (Run T) ⟨none, .call f args,g,pre,hide⟩ e s=den T f (V.stripAll (opdAll e args)) 0 s:=rfl
@[simp] theorem op1_callv'(x args g pre hide e s):op1 T (Run T) ⟨none, .callv x args,g,pre,hide⟩ e s=denV T (x.ev e) (V.stripAll (opdAll e args)) 0 s:=rfl
theorem op1_other {op:AOp}(h:op.callOf= .other)(dst g pre hide e s):op1 T (Run T) ⟨dst,op,g,pre,hide⟩ e s=effK s (aop op (16*dst.getD 0) e s):=by
 simp only[op1,h,effK];cases aop op (16*dst.getD 0) e s<;>rfl
section
variable (dst : Option Nat) (g : Option (Nat × Bool)) (pre hide : List Nat) (e : Env) (s : Stk)
@[simp] theorem o_mv(x):op1 T (Run T) ⟨dst, .mv x,g,pre,hide⟩ e s=some (x.ev e,s):=rfl
def pickK(c a b:V)(s:Stk):Option (V×Stk):=match c with
 | .bool true=>some (a,s)
 | .bool false=>some (b,s)
 |_=>none
@[simp] theorem pickK_true(a b s):pickK (.bool true) a b s=some (a,s):=rfl
@[simp] theorem pickK_false(a b s):pickK (.bool false) a b s=some (b,s):=rfl
@[simp] theorem pickK_or(c x s):pickK (.bool c) (.bool true) (.bool x) s=some (.bool (c||x),s):=by cases c<;>rfl
@[simp] theorem pickK_and(c x s):pickK (.bool c) (.bool x) (.bool false) s=some (.bool (c&&x),s):=by cases c<;>rfl
@[simp] theorem o_pick(c a b):op1 T (Run T) ⟨dst, .pick c a b,g,pre,hide⟩ e s=pickK (c.ev e) (a.ev e) (b.ev e) s:=by
 simp only[op1,AOp.callOf,aop,pickK];cases c.ev e<;>try rfl
 rename_i b;cases b<;>rfl
def boxK(v:V)(lab:Nat)(s:Stk):Option (V×Stk):=if v.isDef∧(sget s (dep s) lab).isNone∧s≠[]then some (.ptr (dep s) lab 0,sput s (dep s) lab (.cell v.cells))else none
@[simp] theorem o_box(d x):op1 T (Run T) ⟨some d, .box x,g,pre,hide⟩ e s=boxK (x.ev e) (16*d) s:=by
 rw[op1_other rfl];simp only[aop,boxK,Option.getD_some];split<;>rfl
@[simp] theorem dep_cons(loc:Loc)(r:Stk):dep (loc::r)=r.length:=by simp[dep]
@[simp] theorem sget_top(loc:Loc)(r:Stk)(l:Nat):sget (loc::r) r.length l=loc.get l:=by simp[sget]
@[simp] theorem sput_top(loc:Loc)(r:Stk)(l:Nat)(x:Entry):sput (loc::r) r.length l x=loc.put l x::r:=by simp[sput]
@[simp] theorem boxK_cons(v lab loc)(r:Stk):boxK v lab (loc::r)=if v.isDef∧(loc.get lab).isNone then some (.ptr r.length lab 0,loc.put lab (.cell v.cells)::r) else none:=by simp[boxK]
def allocK(z:List V)(lab:Nat)(s:Stk):Option (V×Stk):=if (sget s (dep s) lab).isNone∧s≠[]then some (.ptr (dep s) lab 0,sput s (dep s) lab (.cell z))else none
@[simp] theorem o_alloc(d z):op1 T (Run T) ⟨some d, .alloc z,g,pre,hide⟩ e s=allocK z (16*d) s:=by
 rw[op1_other rfl];simp only[aop,allocK,Option.getD_some];split<;>rfl
@[simp] theorem allocK_cons(z lab loc)(r:Stk):allocK z lab (loc::r)=if (loc.get lab).isNone then some (.ptr r.length lab 0,loc.put lab (.cell z)::r) else none:=by simp[allocK]
def buildK(s:Stk):Option (List V)→Option (V×Stk)
 |some cs=>some (.agg cs,s)
 |none=>none
@[simp] theorem buildK_some(s cs):buildK s (some cs)=some (.agg cs,s):=rfl
def fillK(e:Env)(r:List (Nat×Nat×Opd))(off size:Nat)(v:V)(cs:List V):Option (List V):=if v.cells.length=size&&off+size≤cs.length&&v.isDef then fillAll e r (setAll cs off v.cells)else none
@[simp] theorem fillAll_nil(e cs):fillAll e [] cs=some cs:=rfl
@[simp] theorem fillAll_cons(e off size x r cs):fillAll e ((off,size,x)::r) cs=fillK e r off size (x.ev e) cs:=rfl
@[simp] theorem fillK_eq(e r off size v cs):fillK e r off size v cs=if v.cells.length=size∧off+size≤cs.length∧v.isDef=true then fillAll e r (setAll cs off v.cells) else none:=by simp[fillK,and_assoc]
@[simp] theorem o_build(z ps):op1 T (Run T) ⟨dst, .build z ps,g,pre,hide⟩ e s=buildK s (fillAll e ps z):=by
 simp only[op1,AOp.callOf,aop];cases fillAll e ps z<;>rfl
def litK(n:Nat)(s:Stk):Option (List (List V))→Option (V×Stk)
 |some es=>some (.sl .full n es,s)
 |none=>none
@[simp] theorem litK_some(n s es):litK n s (some es)=some (.sl .full n es,s):=rfl
@[simp] theorem litAll_nil(e size es):litAll e size [] es=some es:=rfl
def litV(e:Env)(size:Nat)(i:Nat)(r:List (Nat×Opd))(v:List V)(es:List (List V)):Option (List (List V)):=if v.length=size&&V.elemAll v&&i<es.length then litAll e size r (es.set i v)else none
@[simp] theorem litAll_cons(e size i x r es):litAll e size ((i,x)::r) es=litV e size i r ((x.ev e).strip.cells) es:=rfl
@[simp] theorem litV_eq(e size i r v es):litV e size i r v es=if v.length=size∧V.elemAll v=true∧i<es.length then litAll e size r (es.set i v) else none:=by simp[litV,and_assoc]
@[simp] theorem o_lit(z n ps):op1 T (Run T) ⟨dst, .lit z n ps,g,pre,hide⟩ e s=if V.elemAll (V.stripAll z)=true then litK z.length s (litAll e z.length ps (List.replicate n (V.stripAll z))) else none:=by
 rw[op1_other rfl]
 simp only[aop]
 split
 ·cases litAll e z.length ps (List.replicate n (V.stripAll z))<;>rfl
 ·rfl
def valK(s:Stk):Option V→Option (V×Stk)
 |some v=>some (v,s)
 |none=>none
@[simp] theorem valK_some(s v):valK s (some v)=some (v,s):=rfl
@[simp] theorem part_one(cs:List V)(off:Nat):part none cs off=cs[off]? :=rfl
@[simp] theorem part_all(n:Nat)(cs:List V)(off:Nat):part (some n) cs off=if off+n≤cs.length then some (.agg ((cs.drop off).take n)) else none:=rfl
def cellK(n:Option Nat)(off:Nat)(s:Stk):Option Entry→Option (V×Stk)
 |some (.cell cs)=>valK s (part n cs off)
 |_=>none
@[simp] theorem cellK_cell(n off s cs):cellK n off s (some (.cell cs))=valK s (part n cs off):=rfl
def arrK(n:Option Nat)(q i j:Nat)(s:Stk):Option Entry→Option (V×Stk)
 |some (.arr _ es)=>if q=es.length then(match es[i]? with
   |some cs=>valK s (part n cs j)
   |none=>none)else none
 |some (.harr lo _ es)=>if lo≤q∧q≤es.length∧i<q then(match es[i]? with
   |some cs=>valK s (part n cs j)
   |none=>none)else none
 |_=>none
def rowK(n:Option Nat)(j:Nat)(s:Stk):Option (List V)→Option (V×Stk)
 |some cs=>valK s (part n cs j)
 |none=>none
@[simp] theorem rowK_some(n j s cs):rowK n j s (some cs)=valK s (part n cs j):=rfl
@[simp] theorem arrK_harr(n q i j s lo z es):arrK n q i j s (some (.harr lo z es))=if lo≤q∧q≤es.length∧i<q then rowK n j s es[i]? else none:=by simp only[arrK];cases es[i]? <;>rfl
@[simp] theorem arrK_arr(n q i j s z es):arrK n q i j s (some (.arr z es))=if q=es.length then rowK n j s es[i]? else none:=by simp only[arrK];cases es[i]? <;>rfl
def loadK(n:Option Nat)(a:V)(s:Stk):Option (V×Stk):=match a with
 | .ep cs=>valK s (part n cs 0)
 | .ptr d l off=>cellK n off s (sget s d l)
 | .eptr d l q i j=>arrK n q i j s (sget s d l)
 |_=>none
@[simp] theorem loadK_ep(n cs s):loadK n (.ep cs) s=valK s (part n cs 0):=rfl
@[simp] theorem loadK_ptr(n d l off s):loadK n (.ptr d l off) s=cellK n off s (sget s d l):=rfl
@[simp] theorem loadK_eptr(n d l q i j s):loadK n (.eptr d l q i j) s=arrK n q i j s (sget s d l):=rfl
@[simp] theorem o_load(n a):op1 T (Run T) ⟨dst, .load n a,g,pre,hide⟩ e s=loadK n (a.ev e) s:=by
 rw[op1_other rfl]
 simp only[aop,loadK]
 cases a.ev e<;>try rfl
 ·dsimp only
  rename_i d l off
  cases h:sget s d l with
  |none=>rfl
  | some x => cases x <;> try rfl
              rename_i cs;simp only[cellK];cases part n cs off<;>rfl
 ·rename_i cs;dsimp only;cases part n cs 0<;>rfl
 ·dsimp only
  rename_i d l q i j
  cases h:sget s d l with
  |none=>rfl
  | some x => cases x <;> try rfl
              ·rename_i z es;simp only[arrK];split<;>try rfl
               cases es[i]? <;>try rfl
               rename_i cs;dsimp only;cases part n cs j<;>rfl
              ·rename_i lo z es;simp only[arrK];split<;>try rfl
               cases es[i]? <;>try rfl
               rename_i cs;dsimp only;cases part n cs j<;>rfl
def fitK(n off:Nat)(s:Stk)(d l:Nat)(v cs:List V):Option (V×Stk):=if v.length=n∧off+n≤cs.length∧V.oneAll v then some (.undef,sput s d l (.cell (setAll cs off v)))else none
@[simp] theorem fitK_eq(n off s d l v cs):fitK n off s d l v cs=if v.length=n∧off+n≤cs.length∧V.oneAll v=true then some (.undef,sput s d l (.cell (setAll cs off v))) else none:=rfl
def fitE(n j:Nat)(s:Stk)(d l i z:Nat)(v cs:List V)(es:List (List V)):Option (V×Stk):=if v.length=n∧j+n≤cs.length∧V.oneAll v then some (.undef,sput s d l (.arr z (es.set i (setAll cs j v))))else none
@[simp] theorem fitE_eq(n j s d l i z v cs es):fitE n j s d l i z v cs es=if v.length=n∧j+n≤cs.length∧V.oneAll v=true then some (.undef,sput s d l (.arr z (es.set i (setAll cs j v)))) else none:=rfl
def downK(d:Nat)(s:Stk)(v:V):Option V:=if d=dep s then some v else v.down d
@[simp] theorem downK_top(loc:Loc)(r:Stk)(v:V):downK r.length (loc::r) v=some v:=by simp[downK]
def stC(n d l off:Nat)(s:Stk)(v:Option V):Option Entry→Option (V×Stk)
 |some (.cell cs)=>match v with
   |some v=>fitK n off s d l v.cells cs
   |none=>none
 |_=>none
@[simp] theorem stC_cell(n d l off s v cs):stC n d l off s (some v) (some (.cell cs))=fitK n off s d l v.cells cs:=rfl
def stR(n d l i j z:Nat)(s:Stk)(v:V)(es:List (List V)):Option (List V)→Option (V×Stk)
 |some cs=>fitE n j s d l i z v.cells cs es
 |none=>none
@[simp] theorem stR_some(n d l i j z s v es cs):stR n d l i j z s v es (some cs)=fitE n j s d l i z v.cells cs es:=rfl
def stE(n d l q i j:Nat)(s:Stk)(v:Option V):Option Entry→Option (V×Stk)
 |some (.arr z es)=>if q=es.length then(match v with
   |some v=>stR n d l i j z s v es es[i]?
   |none=>none)else none
 |_=>none
@[simp] theorem stE_arr(n d l q i j s v z es):stE n d l q i j s (some v) (some (.arr z es))=if q=es.length then stR n d l i j z s v es es[i]? else none:=rfl
def storeK(n:Nat)(a v:V)(s:Stk):Option (V×Stk):=match a with
 | .ptr d l off=>stC n d l off s (downK d s v) (sget s d l)
 | .eptr d l q i j=>stE n d l q i j s (downK d s v) (sget s d l)
 |_=>none
@[simp] theorem storeK_ptr(n d l off v s):storeK n (.ptr d l off) v s=stC n d l off s (downK d s v) (sget s d l):=rfl
@[simp] theorem storeK_eptr(n d l q i j v s):storeK n (.eptr d l q i j) v s=stE n d l q i j s (downK d s v) (sget s d l):=rfl
@[simp] theorem o_store(n a v):op1 T (Run T) ⟨dst, .store n a v,g,pre,hide⟩ e s=storeK n (a.ev e) (v.ev e) s:=by
 rw[op1_other rfl]
 simp only[aop,storeK]
 cases a.ev e<;>try rfl
 ·dsimp only
  rename_i d l off
  cases h:sget s d l with
  |none=>rfl
  |some x=>
    cases x<;>try rfl
    rename_i cs
    simp only[stC,downK,fitK]
    by_cases hd:d=dep s
    ·simp only[hd,if_true]
     split<;>rfl
    ·simp only[hd,if_false]
     cases (v.ev e).down d with
     |none=>rfl
     |some u=>dsimp only;split<;>rfl
 ·dsimp only
  rename_i d l q i j
  cases h:sget s d l with
  |none=>rfl
  |some x=>
    cases x<;>try rfl
    rename_i z es
    simp only[stE,downK,stR]
    by_cases hqe:q=es.length
    case neg=>simp only[hqe,if_false];rfl
    simp only[hqe,if_true]
    cases hi:es[i]? with
    |none=>cases hq:(if d=dep s then some (v.ev e)else(v.ev e).down d)<;>rfl
    |some cs=>
      dsimp only
      cases hq:(if d=dep s then some (v.ev e)else(v.ev e).down d)with
      |none=>rfl
      |some u=>simp only[fitE];split<;>rfl
def nilckK(s:Stk):V→Option (V×Stk)
 | .ptr d l off=>some (.ptr d l off,s)
 | .ep cs=>some (.ep cs,s)
 | .fn f a b=>some (.fn f a b,s)
 | .yld d l=>some (.yld d l,s)
 | .eptr d l q i j=>if aliveE q (sget s d l)=true then some (.eptr d l q i j,s)else none
 |_=>none
@[simp] theorem nilckK_ptr(s d l o):nilckK s (.ptr d l o)=some (.ptr d l o,s):=rfl
@[simp] theorem nilckK_ep(s cs):nilckK s (.ep cs)=some (.ep cs,s):=rfl
@[simp] theorem nilckK_fn(s f a b):nilckK s (.fn f a b)=some (.fn f a b,s):=rfl
@[simp] theorem nilckK_yld(s d l):nilckK s (.yld d l)=some (.yld d l,s):=rfl
@[simp] theorem nilckK_eptr(s d l q i j):nilckK s (.eptr d l q i j)=if aliveE q (sget s d l)=true then some (.eptr d l q i j,s) else none:=rfl
@[simp] theorem o_nilck(x):op1 T (Run T) ⟨dst, .nilck x,g,pre,hide⟩ e s=nilckK s (x.ev e):=by
 rw[op1_other rfl];simp only[aop];cases x.ev e<;>try rfl
 simp only[nilckK];split<;>rfl
@[simp] theorem o_bin(op x y):op1 T (Run T) ⟨dst, .bin op x y,g,pre,hide⟩ e s=valK s (bin op (x.ev e) (y.ev e)):=by
 rw[op1_other rfl];simp only[aop];cases bin op (x.ev e) (y.ev e)<;>rfl
@[simp] theorem o_un(op x):op1 T (Run T) ⟨dst, .un op x,g,pre,hide⟩ e s=valK s (un op (x.ev e)):=by
 rw[op1_other rfl];simp only[aop];cases un op (x.ev e)<;>rfl
section
variable (k : IntKind) (a b : Int)
@[simp] theorem bin_add:bin .add (.int k a) (.int k b)=some (.int k (k.wrap (a+b))):=by simp[bin]
@[simp] theorem bin_sub:bin .sub (.int k a) (.int k b)=some (.int k (k.wrap (a-b))):=by simp[bin]
@[simp] theorem bin_mul:bin .mul (.int k a) (.int k b)=some (.int k (k.wrap (a*b))):=by simp[bin]
@[simp] theorem bin_quo:bin .quo (.int k a) (.int k b)=if b=0 then none else some (.int k (k.wrap (a.tdiv b))):=by simp[bin]
@[simp] theorem bin_rem:bin .rem (.int k a) (.int k b)=if b=0 then none else some (.int k (a.tmod b)):=by simp[bin]
@[simp] theorem bin_and:bin .and (.int k a) (.int k b)=some (.int k (k.wrap (BitVec.ofInt k.bits a&&&BitVec.ofInt k.bits b).toNat)):=by simp[bin]
@[simp] theorem bin_or:bin .or (.int k a) (.int k b)=some (.int k (k.wrap (BitVec.ofInt k.bits a|||BitVec.ofInt k.bits b).toNat)):=by simp[bin]
@[simp] theorem bin_xor:bin .xor (.int k a) (.int k b)=some (.int k (k.wrap (BitVec.ofInt k.bits a^^^BitVec.ofInt k.bits b).toNat)):=by simp[bin]
@[simp] theorem bin_andNot:bin .andNot (.int k a) (.int k b)=some (.int k (k.wrap (BitVec.ofInt k.bits a&&& ~~~BitVec.ofInt k.bits b).toNat)):=by simp[bin]
@[simp] theorem bin_eql:bin .eql (.int k a) (.int k b)=some (.bool (decide (a=b))):=by simp[bin];rfl
@[simp] theorem bin_neq:bin .neq (.int k a) (.int k b)=some (.bool (!decide (a=b))):=by simp[bin];rfl
@[simp] theorem bin_lss:bin .lss (.int k a) (.int k b)=some (.bool (decide (a<b))):=by simp[bin]
@[simp] theorem bin_leq:bin .leq (.int k a) (.int k b)=some (.bool (decide (a≤b))):=by simp[bin]
@[simp] theorem bin_gtr:bin .gtr (.int k a) (.int k b)=some (.bool (decide (b<a))):=by simp[bin]
@[simp] theorem bin_geq:bin .geq (.int k a) (.int k b)=some (.bool (decide (b≤a))):=by simp[bin]
@[simp] theorem bin_shl(k'):bin .shl (.int k a) (.int k' b)=if b<0 then none else some (.int k (k.wrap (a*2^min b.toNat k.bits))):=rfl
@[simp] theorem bin_shr(k'):bin .shr (.int k a) (.int k' b)=if b<0 then none else some (.int k (a.fdiv (2^min b.toNat k.bits))):=rfl
@[simp] theorem un_not(b:Bool):un .not (.bool b)=some (.bool !b):=rfl
@[simp] theorem un_neg:un .neg (.int k a)=some (.int k (k.wrap (0-a))):=rfl
@[simp] theorem un_xor:un .xor (.int k a)=some (.int k (k.wrap (BitVec.ofInt k.bits (if k.signed then -1 else k.max)^^^BitVec.ofInt k.bits a).toNat)):=rfl
end
def convK(k:IntKind)(s:Stk):V→Option (V×Stk)
 | .int _ n=>some (.int k (k.wrap n),s)
 |_=>none
@[simp] theorem convK_int(k s k' n):convK k s (.int k' n)=some (.int k (k.wrap n),s):=rfl
@[simp] theorem o_mkfn(f first cap):op1 T (Run T) ⟨dst, .mkfn f first cap,g,pre,hide⟩ e s=some (.fn f (opdAll e first) (opdAll e cap),s):=rfl
def sliceV(esz:Nat)(lo hi mx:Option V)(s:Stk):V→Option (V×Stk)
 | .sl c z es=>if z=esz∨es=[]then
  match hiOf hi es.length with
  |none=>none
  |some h=>match mxOf c mx h es.length with
    |none=>none
    |some c'=>match loOf lo h with
      |none=>none
      |some l=>some (.sl c' z ((es.take h).drop l),s)
  else none
 | .asl d k z q o len=>if aliveE q (sget s d k)=true∧z=esz∧mx.isNone=true then(match hiOf hi len with
  |none=>none
  |some h=>match loOf lo h with
    |none=>none
    |some l=>if l<h then some (.asl d k z q (o+l) (h-l),s)else none)else none
 |_=>none
@[simp] theorem sliceV_asl(esz lo hi mx s d k z q o len):sliceV esz lo hi mx s (.asl d k z q o len)=if aliveE q (sget s d k)=true∧z=esz∧mx.isNone=true then(match hiOf hi len with
 |none=>none
 |some h=>match loOf lo h with
   |none=>none
   |some l=>if l<h then some (.asl d k z q (o+l) (h-l),s)else none)else none:=rfl
@[simp] theorem sliceV_sl(esz lo hi mx s c z es):sliceV esz lo hi mx s (.sl c z es)=if z=esz∨es=[] then
 match hiOf hi es.length with
 |none=>none
 |some h=>match mxOf c mx h es.length with
   |none=>none
   |some c'=>match loOf lo h with
     |none=>none
     |some l=>some (.sl c' z ((es.take h).drop l),s)
 else none:=rfl
@[simp] theorem o_slice(esz x lo hi mx):op1 T (Run T) ⟨dst, .slice esz x lo hi mx,g,pre,hide⟩ e s=sliceV esz (lo.map (Opd.ev e)) (hi.map (Opd.ev e)) (mx.map (Opd.ev e)) s (x.ev e):=by
 rw[op1_other rfl]
 simp only[aop,sliceV]
 cases x.ev e<;>try rfl
 ·dsimp only
  split
  ·split
   ·rename_i h;simp only[h];rfl
   ·rename_i h;simp only[h]
    split
    ·rename_i h;simp only[h];rfl
    ·rename_i h;simp only[h]
     split
     ·rename_i h;simp only[h];rfl
     ·rename_i h;simp only[h];rfl
  ·rfl
 ·have hmx:(mx.map (Opd.ev e)).isNone=mx.isNone:=by cases mx<;>rfl
  dsimp only
  rw[hmx]
  split
  ·split
   ·rename_i h;simp only[h];rfl
   ·rename_i h;simp only[h]
    split
    ·rename_i h;simp only[h];rfl
    ·rename_i h;simp only[h];split<;>rfl
  ·rfl
attribute [simp] hiOf mxOf loOf
def faddrK(off:Nat)(s:Stk):V→Option (V×Stk)
 | .ptr d l o=>some (.ptr d l (o+off),s)
 | .ep cs=>some (.ep (cs.drop off),s)
 | .eptr d l q i j=>if aliveE q (sget s d l)=true then some (.eptr d l q i (j+off),s)else none
 |_=>none
@[simp] theorem faddrK_ptr(off s d l o):faddrK off s (.ptr d l o)=some (.ptr d l (o+off),s):=rfl
@[simp] theorem faddrK_ep(off s cs):faddrK off s (.ep cs)=some (.ep (cs.drop off),s):=rfl
@[simp] theorem faddrK_eptr(off s d l q i j):faddrK off s (.eptr d l q i j)=if aliveE q (sget s d l)=true then some (.eptr d l q i (j+off),s) else none:=rfl
@[simp] theorem o_faddr(off x):op1 T (Run T) ⟨dst, .faddr off x,g,pre,hide⟩ e s=faddrK off s (x.ev e):=by
 rw[op1_other rfl];simp only[aop];cases x.ev e<;>try rfl
 simp only[faddrK];split<;>rfl
def fieldK(n:Option Nat)(off:Nat)(s:Stk):V→Option (V×Stk)
 | .agg cs=>valK s (part n cs off)
 |_=>none
@[simp] theorem fieldK_agg(n off s cs):fieldK n off s (.agg cs)=valK s (part n cs off):=rfl
def epK(s:Stk):Option (List V)→Option (V×Stk)
 |some cs=>some (.ep cs,s)
 |none=>none
@[simp] theorem epK_some(s cs):epK s (some cs)=some (.ep cs,s):=rfl
def idxsK(esz:Nat)(s:Stk)(x i:V):Option (V×Stk):=match x,i with
 | .sl _ z es, .int _ n=>if 0≤n∧z=esz then epK s es[n.toNat]? else none
 | .asl d l z q o len, .int _ n=>if 0≤n∧n<len∧z=esz∧aliveE q (sget s d l)=true then some (.eptr d l q (o+n.toNat) 0,s)else none
 | .csl (.ptr d l o) len, .int _ n=>if 0≤n∧n<len∧esz=1 then some (.ptr d l (o+n.toNat),s)else none
 |_,_=>none
@[simp] theorem idxsK_csl(esz s d l o len k n):idxsK esz s (.csl (.ptr d l o) len) (.int k n)=if 0≤n∧n<len∧esz=1 then some (.ptr d l (o+n.toNat),s) else none:=rfl
@[simp] theorem idxsK_sl(esz s c z es k n):idxsK esz s (.sl c z es) (.int k n)=if 0≤n∧z=esz then epK s es[n.toNat]? else none:=rfl
@[simp] theorem idxsK_asl(esz s d l z q o len k n):idxsK esz s (.asl d l z q o len) (.int k n)=if 0≤n∧n<len∧z=esz∧aliveE q (sget s d l)=true then some (.eptr d l q (o+n.toNat) 0,s) else none:=rfl
@[simp] theorem o_idxs(esz x i):op1 T (Run T) ⟨dst, .idxs esz x i,g,pre,hide⟩ e s=idxsK esz s (x.ev e) (i.ev e):=by
 rw[op1_other rfl]
 simp only[aop,idxsK]
 cases x.ev e with
 |csl p m=>cases p<;>cases i.ev e<;>first|rfl|(dsimp only[V.idx];split<;>rfl)
 |sl c z es=>
   cases i.ev e<;>try rfl
   rename_i k n
   dsimp only[V.idx]
   split
   ·cases es[n.toNat]? <;>rfl
   ·rfl
 |asl d l z q o n=>cases i.ev e<;>first|rfl|(dsimp only[V.idx];split<;>rfl)
 |_=>cases i.ev e<;>rfl
def idxaK(len esz:Nat)(s:Stk)(x i:V):Option (V×Stk):=match x,i with
 | .ptr d l o, .int _ n=>if 0≤n∧n<len then some (.ptr d l (o+n.toNat*esz),s)else none
 | .ep cs, .int _ n=>if 0≤n∧n<len then some (.ep (cs.drop (n.toNat*esz)),s)else none
 | .eptr d l q k j, .int _ n=>if (0≤n∧n<len)∧aliveE q (sget s d l)=true then some (.eptr d l q k (j+n.toNat*esz),s)else none
 |_,_=>none
@[simp] theorem idxaK_ptr(len esz s d l o k n):idxaK len esz s (.ptr d l o) (.int k n)=if 0≤n∧n<len then some (.ptr d l (o+n.toNat*esz),s) else none:=rfl
@[simp] theorem idxaK_ep(len esz s cs k n):idxaK len esz s (.ep cs) (.int k n)=if 0≤n∧n<len then some (.ep (cs.drop (n.toNat*esz)),s) else none:=rfl
@[simp] theorem idxaK_eptr(len esz s d l q i j k n):idxaK len esz s (.eptr d l q i j) (.int k n)=if (0≤n∧n<len)∧aliveE q (sget s d l)=true then some (.eptr d l q i (j+n.toNat*esz),s) else none:=rfl
@[simp] theorem o_idxa(len esz x i):op1 T (Run T) ⟨dst, .idxa len esz x i,g,pre,hide⟩ e s=idxaK len esz s (x.ev e) (i.ev e):=by
 rw[op1_other rfl]
 simp only[aop,idxaK]
 cases x.ev e<;>cases i.ev e<;>try rfl
 all_goals (dsimp only[V.idx];split<;>rfl)
def idxvK(len esz:Nat)(n:Option Nat)(s:Stk)(x i:V):Option (V×Stk):=match x,i with
 | .agg cs, .int _ k=>if 0≤k∧k<len then valK s (part n cs (k.toNat*esz))else none
 |_,_=>none
@[simp] theorem idxvK_agg(len esz n s cs k m):idxvK len esz n s (.agg cs) (.int k m)=if 0≤m∧m<len then valK s (part n cs (m.toNat*esz)) else none:=rfl
def extK(i:Nat)(s:Stk):V→Option (V×Stk)
 | .tup vs=>valK s vs[i]?
 |_=>none
@[simp] theorem extK_tup(i s vs):extK i s (.tup vs)=valK s vs[i]? :=rfl
@[simp] theorem o_ext(x i):op1 T (Run T) ⟨dst, .ext x i,g,pre,hide⟩ e s=extK i s (x.ev e):=by
 rw[op1_other rfl];simp only[aop];cases x.ev e<;>try rfl
 rename_i vs;simp only[extK];cases vs[i]? <;>rfl
def lenK(s:Stk):V→Option (V×Stk)
 | .sl _ _ es=>some (i64 es.length,s)
 | .asl d l _ q _ n=>if aliveE q (sget s d l)=true then some (i64 n,s)else none
 | .csl _ n=>some (i64 n,s)
 |_=>none
@[simp] theorem lenK_csl(s p n):lenK s (.csl p n)=some (i64 n,s):=rfl
@[simp] theorem lenK_sl(s c z es):lenK s (.sl c z es)=some (i64 es.length,s):=rfl
@[simp] theorem lenK_asl(s d l z q o n):lenK s (.asl d l z q o n)=if aliveE q (sget s d l)=true then some (i64 n,s) else none:=rfl
@[simp] theorem o_len(x):op1 T (Run T) ⟨dst, .len x,g,pre,hide⟩ e s=lenK s (x.ev e):=by
 rw[op1_other rfl];simp only[aop];cases x.ev e<;>try rfl
 simp only[lenK];split<;>rfl
def mmK(mx:Bool)(s:Stk)(x y:V):Option (V×Stk):=match x,y with
 | .int k a, .int k' b=>if k=k' then some (.int k (if mx then(if b>a then b else a)else(if b<a then b else a)),s)else none
 |_,_=>none
@[simp] theorem mmK_max(s k a b):mmK true s (.int k a) (.int k b)=some (.int k (max a b),s):=by
 simp only[mmK,if_true,Option.some.injEq,Prod.mk.injEq,V.int.injEq,true_and,and_true];split<;>omega
@[simp] theorem mmK_min(s k a b):mmK false s (.int k a) (.int k b)=some (.int k (min a b),s):=by
 simp only[mmK,if_true,Option.some.injEq,Prod.mk.injEq,V.int.injEq,true_and,and_true,Bool.false_eq_true,if_false];split<;>omega
@[simp] theorem o_mm(mx x y):op1 T (Run T) ⟨dst, .mm mx x y,g,pre,hide⟩ e s=mmK mx s (x.ev e) (y.ev e):=by
 rw[op1_other rfl];simp only[aop,mmK];cases x.ev e<;>cases y.ev e<;>try rfl
 dsimp only;split<;>rfl
def mm3K(mx:Bool)(s:Stk)(x y z:V):Option (V×Stk):=match x,y,z with
 | .int k a, .int k' b, .int k'' c=>if k=k'∧k=k'' then
  some (.int k (if mx then(if c>(if b>a then b else a)then c else(if b>a then b else a))else(if c<(if b<a then b else a)then c else(if b<a then b else a))),s)else none
 |_,_,_=>none
@[simp] theorem mm3K_max(s k a b c):mm3K true s (.int k a) (.int k b) (.int k c)=some (.int k (max (max a b) c),s):=by
 simp only[mm3K,if_true,Option.some.injEq,Prod.mk.injEq,V.int.injEq,true_and,and_true,and_self];split<;>(try split)<;>omega
@[simp] theorem mm3K_min(s k a b c):mm3K false s (.int k a) (.int k b) (.int k c)=some (.int k (min (min a b) c),s):=by
 simp only[mm3K,if_true,Option.some.injEq,Prod.mk.injEq,V.int.injEq,true_and,and_true,and_self,Bool.false_eq_true,if_false];split<;>(try split)<;>omega
@[simp] theorem o_mm3(mx x y z):op1 T (Run T) ⟨dst, .mm3 mx x y z,g,pre,hide⟩ e s=mm3K mx s (x.ev e) (y.ev e) (z.ev e):=by
 rw[op1_other rfl];simp only[aop,mm3K];cases x.ev e<;>cases y.ev e<;>cases z.ev e<;>try rfl
 dsimp only;split<;>rfl
def eqaK(ks:List Bool)(neg:Bool)(s:Stk)(x y:V):Option (V×Stk):=match x,y with
 | .agg a, .agg b=>match eqCells ks a b with
   |some r=>some (.bool (if neg then !r else r),s)
   |none=>none
 |_,_=>none
def eqR(neg:Bool)(s:Stk):Option Bool→Option (V×Stk)
 |some r=>some (.bool (if neg then !r else r),s)
 |none=>none
@[simp] theorem eqR_some(neg s r):eqR neg s (some r)=some (.bool (if neg then !r else r),s):=rfl
@[simp] theorem eqaK_agg(ks neg s a b):eqaK ks neg s (.agg a) (.agg b)=eqR neg s (eqCells ks a b):=by simp only[eqaK,eqR]
@[simp] theorem eqCells_nil:eqCells [] [] []=some true:=rfl
def eqC(x:Bool):Option Bool→Option Bool
 |some y=>some (x&&y)
 |none=>none
@[simp] theorem eqC_some(x y):eqC x (some y)=some (x&&y):=rfl
@[simp] theorem eqCells_int(ks k a r b r'):eqCells (true::ks) (.int k a::r) (.int k b::r')=eqC (decide (a=b)) (eqCells ks r r'):=by
 simp only[eqCells,if_true];cases eqCells ks r r'<;>simp[eqC,beq_int]
@[simp] theorem eqCells_bool(ks a r b r'):eqCells (false::ks) (.bool a::r) (.bool b::r')=eqC (a==b) (eqCells ks r r'):=by
 simp only[eqCells];cases eqCells ks r r'<;>rfl
@[simp] theorem o_eqa(ks neg x y):op1 T (Run T) ⟨dst, .eqa ks neg x y,g,pre,hide⟩ e s=eqaK ks neg s (x.ev e) (y.ev e):=by
 rw[op1_other rfl];simp only[aop,eqaK];cases x.ev e<;>cases y.ev e<;>try rfl
 rename_i a b;dsimp only;cases eqCells ks a b<;>rfl
def eqbK(neg:Bool)(s:Stk)(x y:V):Option (V×Stk):=match x,y with
 | .bool a, .bool b=>some (.bool (if neg then !(a==b)else a==b),s)
 |_,_=>none
@[simp] theorem eqbK_bool(neg s a b):eqbK neg s (.bool a) (.bool b)=some (.bool (if neg then !(a==b) else a==b),s):=rfl
def isnilK(neg:Bool)(s:Stk):V→Option (V×Stk)
 | .sl _ _ es=>some (if es=[]then .anyb else .bool neg,s)
 | .asl d l _ q _ n=>if aliveE q (sget s d l)=true then some (if n=0 then .anyb else .bool neg,s)else none
 | .csl _ _=>some (.bool neg,s)
 |_=>none
@[simp] theorem isnilK_csl(neg s p n):isnilK neg s (.csl p n)=some (.bool neg,s):=rfl
@[simp] theorem isnilK_sl(neg s c z es):isnilK neg s (.sl c z es)=some (if es=[] then .anyb else .bool neg,s):=rfl
@[simp] theorem isnilK_asl(neg s d l z q o n):isnilK neg s (.asl d l z q o n)=if aliveE q (sget s d l)=true then some (if n=0 then .anyb else .bool neg,s) else none:=rfl
def clearE(z:List V)(d l sz q o n:Nat)(s:Stk):Option Entry→Option (V×Stk)
 |some (.arr z0 es)=>if q=es.length∧o+n≤es.length∧sz=z0∧z.length=z0∧V.pureAll z=true∧V.oneAll z=true then
  (if n=0 then some (.undef,s)else some (.undef,sput s d l (.arr z0 (es.take o ++List.replicate n z ++es.drop (o+n)))))else none
 |_=>none
@[simp] theorem clearE_arr(z d l sz q o n s z0 es):clearE z d l sz q o n s (some (.arr z0 es))=if q=es.length∧o+n≤es.length∧sz=z0∧z.length=z0∧V.pureAll z=true∧V.oneAll z=true then
 (if n=0 then some (.undef,s)else some (.undef,sput s d l (.arr z0 (es.take o ++List.replicate n z ++es.drop (o+n)))))else none:=rfl
def clearK(z:List V)(s:Stk):V→Option (V×Stk)
 | .sl _ _ es=>if es=[]then some (.undef,s)else none
 | .asl d l sz q o n=>clearE z d l sz q o n s (sget s d l)
 |_=>none
@[simp] theorem clearK_sl(z s c z' es):clearK z s (.sl c z' es)=if es=[] then some (.undef,s) else none:=rfl
@[simp] theorem clearK_asl(z s d l sz q o n):clearK z s (.asl d l sz q o n)=clearE z d l sz q o n s (sget s d l):=rfl
@[simp] theorem o_clear(z x):op1 T (Run T) ⟨dst, .clear z x,g,pre,hide⟩ e s=clearK z s (x.ev e):=by
 rw[op1_other rfl];simp only[aop,clearK];cases x.ev e<;>try rfl
 ·rename_i c z' es
  by_cases h:es=[]
  ·simp only[h,if_true];rfl
  ·simp only[h];rfl
 ·rename_i d l sz q o n
  dsimp only
  generalize sget s d l=y
  rcases y with _|y
  ·rfl
  ·cases y with
   |arr z0 es=>
     dsimp only[clearE]
     by_cases h:q=es.length∧o+n≤es.length∧sz=z0∧z.length=z0∧V.pureAll z=true∧V.oneAll z=true
     ·rw[if_pos h,if_pos h]
      by_cases h0:n=0
      ·rw[if_pos h0,if_pos h0];rfl
      ·rw[if_neg h0,if_neg h0];rfl
     ·rw[if_neg h,if_neg h];rfl
   |_=>rfl
def slarrK(n:Nat)(hi:Option V)(s:Stk):V→Option (V×Stk)
 | .ptr d l o=>match hiOf hi n with
   |some h=>some (.csl (.ptr d l o) h,s)
   |none=>none
 |_=>none
@[simp] theorem slarrK_ptr(n hi s d l o):slarrK n hi s (.ptr d l o)=(hiOf hi n).map fun h=>(.csl (.ptr d l o) h,s):=by
 simp only[slarrK];cases hiOf hi n<;>rfl
@[simp] theorem o_slarr(n x hi):op1 T (Run T) ⟨dst, .slarr n x hi,g,pre,hide⟩ e s=slarrK n (hi.map (Opd.ev e)) s (x.ev e):=by
 rw[op1_other rfl];simp only[aop,slarrK];cases x.ev e<;>try rfl
 dsimp only
 cases hiOf (hi.map (Opd.ev e)) n<;>rfl
def strixK(bs:List Nat)(s:Stk):V→Option (V×Stk)
 | .int _ n=>if 0≤n then(match bs[n.toNat]? with
  |some b=>some (.int .u8 b,s)
  |none=>none)else none
 |_=>none
@[simp] theorem strixK_int(bs s k n):strixK bs s (.int k n)=if 0≤n then(match bs[n.toNat]? with
 |some b=>some (.int .u8 b,s)
 |none=>none)else none:=rfl
def appK(esz bytes lab:Nat)(s:Stk)(x y:V):Option (V×Stk):=effK s (match x,y with
 | .sl c z es, .sl _ z' fs=>
   if (es.length+fs.length)*bytes≤140737488355328∧es.length+fs.length<140737488355328∧(z=esz∨es=[])∧(z'=esz∨fs=[])then
    match c with
    | .no=>if fs=[]then some (.sl .no z es,none)else none
    | .full=>if fs=[]then some (.sl .full z es,none)else
      if (sget s (dep s) lab).isNone∧s≠[]then some (.sl (.own (dep s) lab) esz (es ++fs),some (dep s,lab, .tok (es.length+fs.length)))else none
    | .own d l=>match sget s d l with
      |some (.tok n)=>if n=es.length∧z=esz then some (.sl (.own d l) esz (es ++fs),some (d,l, .tok (es.length+fs.length)))else none
      |_=>none
   else none
 | .asl d l z q o k, .sl _ z' fs=>match sget s d l with
   |some (.arr z0 es)=>if (es.length+fs.length)*bytes≤140737488355328∧es.length+fs.length<140737488355328∧q=es.length∧o=0∧k=q∧z=esz∧z0=esz∧(z'=esz∨fs=[])then
    (if fs=[]then some (.asl d l z q 0 k,none)else some (.asl d l esz (es.length+fs.length) 0 (es.length+fs.length),some (d,l, .arr esz (es ++fs))))else none
   |some (.harr lo z0 es)=>if (es.length+fs.length)*bytes≤140737488355328∧es.length+fs.length<140737488355328∧q=es.length∧o=0∧k=q∧z=esz∧z0=esz∧z'=esz∧fs≠[]∧d=dep s then
    some (.asl d l esz (es.length+fs.length) 0 (es.length+fs.length),some (d,l, .harr lo esz (es ++fs)))else none
   |_=>none
 | .asl d l z q o k, .asl d2 l2 z2 q2 o2 k2=>match sget s d l,sget s d2 l2 with
   |some (.arr z0 es),some (.arr z3 gs)=>if (es.length+k2)*bytes≤140737488355328∧es.length+k2<140737488355328∧q=es.length∧o=0∧k=q∧z=esz∧z0=esz∧z2=esz∧z3=esz∧
    q2=gs.length∧o2+k2≤gs.length∧k2≠0∧d=dep s∧d2=dep s∧l≠l2∧(gs.all V.oneAll)=true then
    some (.asl d l esz (es.length+k2) 0 (es.length+k2),some (d,l, .arr esz (es ++(gs.drop o2).take k2)))else none
   |_,_=>none
 |_,_=>none)
@[simp] theorem o_app(d esz bytes x y):op1 T (Run T) ⟨some d, .app esz bytes x y,g,pre,hide⟩ e s=appK esz bytes (16*d) s (x.ev e) (y.ev e):=by
 rw[op1_other rfl];rfl
theorem appK_full(esz bytes lab loc r z es c' z' fs)(h1:(es.length+fs.length)*bytes≤140737488355328)(h2:es.length+fs.length<140737488355328)(h3:z=esz∨es=[])(h4:z'=esz∨fs=[])(h5:fs≠[])(h6:Loc.get loc lab=none):
 appK esz bytes lab (loc::r) (.sl .full z es) (.sl c' z' fs)=some (.sl (.own r.length lab) esz (es ++fs),loc.put lab (.tok (es.length+fs.length))::r):=by
 simp[appK,h1,h2,h3,h4.resolve_right h5,h5,h6]
theorem appK_full_nil(esz bytes lab s z es c' z')(h1:es.length*bytes≤140737488355328)(h2:es.length<140737488355328)(h3:z=esz∨es=[]):appK esz bytes lab s (.sl .full z es) (.sl c' z' [])=some (.sl .full z es,s):=by
 simp[appK,h1,h2,h3]
theorem appK_own(esz bytes lab loc)(r:Stk)(l es c' z' fs)(h1:(es.length+fs.length)*bytes≤140737488355328)(h2:es.length+fs.length<140737488355328)(h4:z'=esz∨fs=[])(h6:Loc.get loc l=some (.tok es.length)):
 appK esz bytes lab (loc::r) (.sl (.own r.length l) esz es) (.sl c' z' fs)=some (.sl (.own r.length l) esz (es ++fs),loc.put l (.tok (es.length+fs.length))::r):=by
 simp[appK,h1,h2,h4,h6]
def mkslK(z:List V)(bytes lab:Nat)(s:Stk)(l c:V):Option (V×Stk):=match l,c with
 | .int _ n, .int _ k=>if 0≤n∧k=n∧n<140737488355328∧n*bytes≤140737488355328∧(sget s (dep s) lab).isNone∧s≠[]then
  some (.asl (dep s) lab z.length n.toNat 0 n.toNat,sput s (dep s) lab (.arr z.length (List.replicate n.toNat z)))else none
 |_,_=>none
@[simp] theorem mkslK_cons(z bytes lab loc)(r:Stk)(k n k' m):mkslK z bytes lab (loc::r) (.int k n) (.int k' m)=if 0≤n∧m=n∧n<140737488355328∧n*bytes≤140737488355328∧(Loc.get loc lab).isNone then
 some (.asl r.length lab z.length n.toNat 0 n.toNat,loc.put lab (.arr z.length (List.replicate n.toNat z))::r)else none:=by simp[mkslK]
@[simp] theorem o_mkslD(d z bytes l c):op1 T (Run T) ⟨some d, .mkslD z bytes l c,g,pre,hide⟩ e s=mkslK z bytes (freshL s 9 (16*d)) s (l.ev e) (c.ev e):=by
 rw[op1_other rfl];simp only[aop,mkslK,Option.getD_some];cases l.ev e<;>cases c.ev e<;>try rfl
 rename_i k n k' m
 dsimp only[V.idx]
 split<;>rfl
@[simp] theorem freshL_cons(loc:Loc)(r:Stk)(n l):freshL (loc::r) (n+1) l=if (loc.get l).isNone then l else freshL (loc::r) n (l+1000):=by
 simp[freshL]
def litmK(sz lab n:Nat)(s:Stk)(z:List V):Option (List (List V))→Option (V×Stk)
 |some es=>if V.oneAll z=true∧(sget s (dep s) lab).isNone∧s≠[]∧0<n then some (.asl (dep s) lab sz n 0 n,sput s (dep s) lab (.arr sz es))else none
 |none=>none
@[simp] theorem o_litm(d z n ps):op1 T (Run T) ⟨some d, .litm z n ps,g,pre,hide⟩ e s=litmK z.length (16*d) n s z (litAllM e z.length ps (List.replicate n z)):=by
 rw[op1_other rfl];simp only[aop,litmK,Option.getD_some]
 cases litAllM e z.length ps (List.replicate n z)with
 |none=>split<;>rfl
 |some es=>split<;>rfl
@[simp] theorem litmK_some(sz lab n z es loc)(r:Stk):litmK sz lab n (loc::r) z (some es)=if V.oneAll z=true∧(loc.get lab).isNone∧0<n then some (.asl r.length lab sz n 0 n,loc.put lab (.arr sz es)::r) else none:=by
 simp[litmK]
@[simp] theorem litAllM_nil(e size es):litAllM e size [] es=some es:=rfl
@[simp] theorem litAllM_cons(e size i x r es):litAllM e size ((i,x)::r) es=if ((x.ev e).cells.length=size&&V.oneAll (x.ev e).cells&&i<es.length)=true then litAllM e size r (es.set i (x.ev e).cells) else none:=rfl
def appmK(esz bytes lab:Nat)(s:Stk)(x y:V):Option (V×Stk):=effK s (match x with
 | .sl .full z []=>match (match y with
  | .sl _ z' fs=>if z'=esz∨fs=[]then some fs else none
  | .asl d l z' q o n=>match sget s d l with
    |some (.arr _ fs)=>if z'=esz∧q=fs.length∧o+n≤fs.length then some (((fs.map V.stripAll).drop o).take n)else none
    |_=>none
  | .csl (.ptr d l o) n=>match sget s d l with
    |some (.cell cs)=>if esz=1∧o+n≤cs.length then some (((cs.drop o).take n).map fun v=>[v])else none
    |_=>none
  |_=>none)with
   |some fs=>if fs.length*bytes≤140737488355328∧fs.length<140737488355328∧(z=esz∨fs=[])∧(sget s (dep s) lab).isNone∧s≠[]then
    some (.asl (dep s) lab esz fs.length 0 fs.length,some (dep s,lab, .arr esz fs))else none
   |none=>none
 |_=>none)
@[simp] theorem o_appm(d esz bytes x y):op1 T (Run T) ⟨some d, .appm esz bytes x y,g,pre,hide⟩ e s=appmK esz bytes (16*d) s (x.ev e) (y.ev e):=by
 rw[op1_other rfl];rfl
theorem appmK_sl(esz bytes lab loc)(r:Stk)(z c' z' fs)(h1:fs.length*bytes≤140737488355328)(h2:fs.length<140737488355328)(h3:z=esz∨fs=[])(h4:z'=esz∨fs=[])(h6:Loc.get loc lab=none):
 appmK esz bytes lab (loc::r) (.sl .full z []) (.sl c' z' fs)=some (.asl r.length lab esz fs.length 0 fs.length,loc.put lab (.arr esz fs)::r):=by
 simp[appmK,h1,h2,h3,h4,h6]
end
end
end Go.Ab

/-
  The evaluator's equations, continued: ends of functions, loops' heads, regions that draw; loops; encodings of typed data.
-/
namespace Go.Ab
section
variable {T : Tab}
def resK(own:Bool)(loc:Loc)(lab:Nat)(s:Stk):Option (List V)→Option (V×Stk)
 |some vs=>adopt own loc (pack vs) lab s
 |none=>none
@[simp] theorem resK_some(own loc lab s vs):resK own loc lab s (some vs)=adopt own loc (pack vs) lab s:=rfl
def finK(own:Bool)(res:List ARes)(lab:Nat):Res→Option (V×Stk)
 |some (.ret,e,loc::s)=>resK own loc lab s (results e (loc::s) res)
 |some (.normal,e,loc::s)=>resK own loc lab s (results e (loc::s) res)
 |_=>none
@[simp] theorem finK_ret(own res lab e loc s):finK own res lab (some (.ret,e,loc::s))=resK own loc lab s (results e (loc::s) res):=rfl
@[simp] theorem finK_normal(own res lab e loc s):finK own res lab (some (.normal,e,loc::s))=resK own loc lab s (results e (loc::s) res):=rfl
@[simp] theorem finK_ite(own res lab)(p:Prop) [Decidable p](x y):finK own res lab (if p then x else y)=if p then finK own res lab x else finK own res lab y:=by split<;>rfl
theorem den_fn {f:FuncId} {np:Nat} {res:List ARes} {body:AC} {own:Bool}(h:T.fns f=some (.code ⟨np,res,body,own⟩))(args lab s)(hl:args.length=np):den T f args lab s=finK own res lab (Run T body (argEnv 0 args) ([]::s)):=by
 rw[den_code h,if_pos hl]
 dsimp only
 cases Run T body (argEnv 0 args) ([]::s)with
 |none=>rfl
 |some q=>
   obtain⟨ex,e,s1⟩:=q
   cases ex<;>cases s1<;>simp only[finK,resK]<;>cases results e _ res<;>rfl
def cellV(k:Option Nat)(off:Nat):Option Entry→Option V
 |some (.cell cs)=>part k cs off
 |_=>none
@[simp] theorem cellV_cell(k off cs):cellV k off (some (.cell cs))=part k cs off:=rfl
def ptrV(k:Option Nat)(s:Stk):V→Option V
 | .ptr d l off=>cellV k off (sget s d l)
 |_=>none
@[simp] theorem ptrV_ptr(k s d l off):ptrV k s (.ptr d l off)=cellV k off (sget s d l):=rfl
def consO:Option V→Option (List V)→Option (List V)
 |some v,some vs=>some (v::vs)
 |_,_=>none
@[simp] theorem consO_some(v vs):consO (some v) (some vs)=some (v::vs):=rfl
@[simp] theorem results_nil(e s):results e s []=some []:=rfl
@[simp] theorem results_t(e s n rs):results e s (.t n::rs)=consO (some (e.get n)) (results e s rs):=by simp only[results];cases results e s rs<;>rfl
@[simp] theorem results_cell(e s n k rs):results e s (.cell n k::rs)=consO (ptrV k s (e.get n)) (results e s rs):=by
 simp only[results]
 cases e.get n<;>rfl
@[simp] theorem pack_one(v):pack [v]=v:=rfl
@[simp] theorem pack_two(a b r):pack (a::b::r)= .tup (a::b::r):=rfl
@[simp] theorem pack_nil:pack []= .tup []:=rfl
attribute [simp] V.refs V.refsAll
@[simp] theorem capRefs_no(d):Cap.refs d .no=[]:=rfl
@[simp] theorem capRefs_full(d):Cap.refs d .full=[]:=rfl
@[simp] theorem capRefs_own(d d' l):Cap.refs d (.own d' l)=if d'=d then [l] else []:=rfl
def adK(own:Bool)(loc:Loc)(r:V)(lab:Nat)(s:Stk):List Nat→Option (V×Stk)
 |[]=>some (r.map (renR own s.length loc [] (dep s) lab),s)
 |l::ls=>let more:=fun ls:List Nat=>dedup (ls ++ls.flatMap fun l=>match loc.get l with
   |some x=>x.refs own s.length
   |_=>[])
   let es:=more (more (l::ls))
   match es with
   |[]=>some (r.map (renR own s.length loc [] (dep s) lab),s)
   |es=>if s.isEmpty then none else(adoptAll own s.length es loc lab es s).map fun s'=>(r.map (renR own s.length loc es (dep s) lab),s')
@[simp] theorem adopt_eq(own loc r lab s):adopt own loc r lab s=adK own loc r lab s (r.refs own s.length):=by
 unfold adopt escapes
 cases r.refs own s.length with
 |nil=>rfl
 |cons l ls=>rfl
@[simp] theorem adK_nil(own loc r lab s):adK own loc r lab s []=some (r.map (renR own s.length loc [] (dep s) lab),s):=rfl
section
variable (own : Bool) (d : Nat) (loc : Loc) (ls : List Nat) (d' lab : Nat)
@[simp] theorem renR_p(a l o):(renR own d loc ls d' lab).p a l o=if a=d then(if ls.contains l then .ptr d' (newLab lab l ls) o else .undef) else .ptr a l o:=rfl
@[simp] theorem renR_c(c):(renR own d loc ls d' lab).c c=if own then c.ren own d ls d' lab else .no:=rfl
@[simp] theorem renR_y(a l):(renR own d loc ls d' lab).y a l=if a=d then .undef else .yld a l:=rfl
@[simp] theorem renR_e(a l q i j):(renR own d loc ls d' lab).e a l q i j=if a=d then .undef else .eptr a l q i j:=rfl
@[simp] theorem renR_a_own(a l z n o k):(renR true d loc ls d' lab).a a l z n o k=if a=d then(if ls.contains l then .asl d' (newLab lab l ls) z n o k else .undef) else .asl a l z n o k:=rfl
def freezeV(z n o k:Nat):Option Entry→V
 |some (.arr sz es)=>if z=sz∧n=es.length∧o+k≤es.length∧elemsOk (es.map V.stripAll) sz=true then .sl .no sz (((es.map V.stripAll).drop o).take k)else .undef
 |_=> .undef
@[simp] theorem freezeV_arr(z n o k sz es):freezeV z n o k (some (.arr sz es))=if z=sz∧n=es.length∧o+k≤es.length∧elemsOk (es.map V.stripAll) sz=true then .sl .no sz (((es.map V.stripAll).drop o).take k) else .undef:=rfl
@[simp] theorem renR_a_no(a l z n o k):(renR false d loc ls d' lab).a a l z n o k=if a=d then freezeV z n o k (loc.get l) else .asl a l z n o k:=by
 simp only[renR,freezeV];split
 ·cases loc.get l<;>rfl
 ·rfl
variable (keep : List Nat)
@[simp] theorem dropR_p(a l o):(dropR d keep).p a l o=if a=d∧l∉keep then .undef else .ptr a l o:=rfl
@[simp] theorem dropR_c(c):(dropR d keep).c c=c.drop d keep:=rfl
@[simp] theorem dropR_y(a l):(dropR d keep).y a l=if a=d∧l∉keep then .undef else .yld a l:=rfl
@[simp] theorem dropR_a(a l z n o k):(dropR d keep).a a l z n o k=if a=d∧l∉keep then .undef else .asl a l z n o k:=rfl
@[simp] theorem dropR_e(a l q i j):(dropR d keep).e a l q i j=if a=d∧l∉keep then .undef else .eptr a l q i j:=rfl
end
@[simp] theorem envRen_nil(r):Env.ren r []=[]:=rfl
@[simp] theorem envRen_cons(r k v e):Env.ren r ((k,v)::e)=(k,v.map r)::Env.ren r e:=rfl
@[simp] theorem locRen_nil(r):Loc.ren r []=[]:=rfl
@[simp] theorem locRen_cons(r k x l):Loc.ren r ((k,x)::l)=(k,x.map r)::Loc.ren r l:=rfl
@[simp] theorem entMap_cell(r cs):Entry.map r (.cell cs)= .cell (V.mapAll r cs):=rfl
@[simp] theorem entMap_tok(r n):Entry.map r (.tok n)= .tok n:=rfl
@[simp] theorem entMap_arr(r z es):Entry.map r (.arr z es)= .arr z (es.map (V.mapAll r)):=rfl
@[simp] theorem entMap_mp(r t kvs):Entry.map r (.mp t kvs)= .mp t kvs:=rfl
@[simp] theorem entMap_mq(r kvs):Entry.map r (.mq kvs)= .mq kvs:=rfl
@[simp] theorem entMap_harr(r lo z es):Entry.map r (.harr lo z es)= .harr lo z es:=rfl
@[simp] theorem entMap_loop(r ps a b env o p):Entry.map r (.loop ps a b env o p)= .loop ps a b (Env.ren r env) o p:=rfl
@[simp] theorem gcEnv_eq(live keep e loc r):gcEnv live keep e (loc::r)=Env.ren (dropR r.length keep) (Env.only live e):=by simp[gcEnv]
@[simp] theorem gcStk_eq(keep loc r):gcStk keep (loc::r)=loc.gc r.length keep::r:=rfl
@[simp] theorem locGc_eq(d keep loc):Loc.gc d keep loc=Loc.ren (dropR d keep) (loc.filter fun x=>keep.contains x.1):=rfl
def thawK(t l sz:Nat)(e:Env)(s:Stk):V→Res
 | .sl .full z es=>if 100≤sz then
  (if es=[]∧(sget s (dep s) l).isNone∧s≠[]then some (.normal,(t, .asl (dep s) l (sz-100) 0 0 0)::e,sput s (dep s) l (.arr (sz-100) []))else none)
   else if (z=sz∨es=[])∧(sget s (dep s) l).isNone∧s≠[]then some (.normal,(t, .sl (.own (dep s) l) sz es)::e,sput s (dep s) l (.tok es.length))else none
 | .sl (.own _ _) _ _=>some (.normal,e,s)
 | .asl _ _ _ _ _ _=>some (.normal,e,s)
 |_=>none
@[simp] theorem thawK_asl(t l sz e s d k z n o len):thawK t l sz e s (.asl d k z n o len)=some (.normal,e,s):=rfl
@[simp] theorem run_thawK(t l z e s):Run T (.thaw t l z) e s=thawK t l z e s (e.get t):=by rw[run_eq];rfl
@[simp] theorem thawK_full(t l sz e loc r z es):thawK t l sz e (loc::r) (.sl .full z es)=if 100≤sz then(if es=[]∧(Loc.get loc l).isNone then some (.normal,(t, .asl r.length l (sz-100) 0 0 0)::e,loc.put l (.arr (sz-100) [])::r) else none) else if (z=sz∨es=[])∧(Loc.get loc l).isNone then some (.normal,(t, .sl (.own r.length l) sz es)::e,loc.put l (.tok es.length)::r) else none:=by simp[thawK]
@[simp] theorem thawK_own(t l sz e s d k z es):thawK t l sz e s (.sl (.own d k) z es)=some (.normal,e,s):=rfl
def thawV(d k l o sz:Nat)(cs:List V)(e:Env)(s:Stk):Option V→Res
 |some (.sl .full z es)=>if 100≤sz then
  (if es=[]∧d=dep s∧(sget s (dep s) l).isNone∧s≠[]∧k≠l then
    some (.normal,e,sput (sput s d k (.cell (cs.set o (.asl (dep s) l (sz-100) 0 0 0)))) (dep s) l (.arr (sz-100) []))else none)
   else if (z=sz∨es=[])∧d=dep s∧(sget s (dep s) l).isNone∧s≠[]∧k≠l then
    some (.normal,e,sput (sput s d k (.cell (cs.set o (.sl (.own (dep s) l) sz es)))) (dep s) l (.tok es.length))else none
 |some (.sl (.own _ _) _ _)=>some (.normal,e,s)
 |some (.asl _ _ _ _ _ _)=>some (.normal,e,s)
 |_=>none
@[simp] theorem thawV_asl(d k l o sz cs e s d' k' z n o' len):thawV d k l o sz cs e s (some (.asl d' k' z n o' len))=some (.normal,e,s):=rfl
@[simp] theorem thawV_full(d k l o sz cs e loc r z es):thawV d k l o sz cs e (loc::r) (some (.sl .full z es))=if 100≤sz then
 (if es=[]∧d=r.length∧(Loc.get loc l).isNone∧k≠l then
   some (.normal,e,sput (sput (loc::r) d k (.cell (cs.set o (.asl r.length l (sz-100) 0 0 0)))) r.length l (.arr (sz-100) []))else none)
 else if (z=sz∨es=[])∧d=r.length∧(Loc.get loc l).isNone∧k≠l then
  some (.normal,e,sput (sput (loc::r) d k (.cell (cs.set o (.sl (.own r.length l) sz es)))) r.length l (.tok es.length))else none:=by simp[thawV]
@[simp] theorem thawV_own(d k l o sz cs e s d' k' z es):thawV d k l o sz cs e s (some (.sl (.own d' k') z es))=some (.normal,e,s):=rfl
def thawC(d k l o sz:Nat)(e:Env)(s:Stk):Option Entry→Res
 |some (.cell cs)=>thawV d k l o sz cs e s cs[o]?
 |_=>none
@[simp] theorem thawC_cell(d k l o sz e s cs):thawC d k l o sz e s (some (.cell cs))=thawV d k l o sz cs e s cs[o]? :=rfl
def thawP(off l sz:Nat)(e:Env)(s:Stk):V→Res
 | .ptr d k o=>thawC d k l (o+off) sz e s (sget s d k)
 |_=>none
@[simp] theorem thawP_ptr(off l sz e s d k o):thawP off l sz e s (.ptr d k o)=thawC d k l (o+off) sz e s (sget s d k):=rfl
@[simp] theorem run_thawcK(t o l z e s):Run T (.thawc t o l z) e s=thawP o l z e s (e.get t):=by
 rw[run_eq]
 simp only[step,thawc,thawP]
 cases e.get t<;>rfl
@[simp] theorem run_freezeK(ls e s):Run T (.freeze ls) e s=some (.normal,(frzAll ls e s).1,(frzAll ls e s).2):=by rw[run_eq];rfl
attribute [simp] frzAll
def frzE(l:Nat)(e:Env)(loc:Loc)(r:Stk):Option Entry→Env×Stk
 |some (.arr sz es)=>if elemsOk (es.map V.stripAll) sz then(Env.ren (frzR r.length l sz (es.map V.stripAll)) e,Loc.put (Loc.ren (frzR r.length l sz (es.map V.stripAll)) loc) l (.tok es.length)::r)else(e,loc::r)
 |_=>(e,loc::r)
def growsE(l:Nat)(e:Env)(loc:Loc)(r:Stk):Option Entry→Env×Stk
 |some (.arr sz es)=>if elemsOk (es.map V.stripAll) sz=true∧es≠[]then(e,Loc.put loc l (.harr es.length sz (es.map V.stripAll))::r)else(e,loc::r)
 |_=>(e,loc::r)
@[simp] theorem growsE_arr(l e loc r sz es):growsE l e loc r (some (.arr sz es))=if elemsOk (es.map V.stripAll) sz=true∧es≠[] then(e,Loc.put loc l (.harr es.length sz (es.map V.stripAll))::r) else(e,loc::r):=rfl
@[simp] theorem growsE_none(l e loc r):growsE l e loc r none=(e,loc::r):=rfl
@[simp] theorem dropT_cons(l e loc)(r:Stk):dropT l e (loc::r)=(Env.ren (dropR r.length ((loc.map (·.1)).filter (· !=l))) e,loc.gc r.length ((loc.map (·.1)).filter (· !=l))::r):=by
 simp only[dropT,List.headD_cons,dep_cons];rfl
@[simp] theorem frz1_eq(l e loc r):frz1 l e (loc::r)=if 2000000≤l then dropT (l-2000000) e (loc::r) else if 1000000≤l then growsE (l-1000000) e loc r (loc.get (l-1000000)) else frzE l e loc r (loc.get l):=by
 simp only[frz1,frzE,grows,growsE]
 split
 ·rfl
 split
 ·cases Loc.get loc (l-1000000)with
  |none=>rfl
  |some x=>cases x<;>rfl
 ·cases Loc.get loc l with
  |none=>rfl
  |some x=>cases x<;>rfl
@[simp] theorem frzE_arr(l e loc r sz es):frzE l e loc r (some (.arr sz es))=if elemsOk (es.map V.stripAll) sz then(Env.ren (frzR r.length l sz (es.map V.stripAll)) e,Loc.put (Loc.ren (frzR r.length l sz (es.map V.stripAll)) loc) l (.tok es.length)::r) else(e,loc::r):=rfl
@[simp] theorem frzE_none(l e loc r):frzE l e loc r none=(e,loc::r):=rfl
section
variable (d l sz : Nat) (es : List (List V))
@[simp] theorem frzR_p:(frzR d l sz es).p=V.ptr:=rfl
@[simp] theorem frzR_c(c):(frzR d l sz es).c c=c:=rfl
@[simp] theorem frzR_y:(frzR d l sz es).y=V.yld:=rfl
@[simp] theorem frzR_a(d' l' z n o k):(frzR d l sz es).a d' l' z n o k=if d'=d∧l'=l then(if z=sz∧n=es.length∧o+k≤es.length then .sl (if o=0∧k=es.length then .own d l else .no) sz ((es.drop o).take k) else .undef) else .asl d' l' z n o k:=rfl
@[simp] theorem frzR_e(d' l' q i j):(frzR d l sz es).e d' l' q i j=if d'=d∧l'=l then .undef else .eptr d' l' q i j:=rfl
end
theorem get_ren(r:Ren)(e:Env)(t:Nat):Env.get (Env.ren r e) t=V.map r (Env.get e t):=by
 induction e with
 |nil=>simp
 |cons x e ih=>obtain⟨k,v⟩:=x;simp only[envRen_cons,Env.get,ih];split<;>rfl
def hidden(i t:Nat):List AOper→Bool
 |[]=>false
 |o::os=>(o.dst==some t&& !o.pre.contains i)||hidden i t os
theorem get_setDst(dst:Option Nat)(v:V)(e:Env)(t:Nat):Env.get (setDst dst v e) t=if dst=some t then v else Env.get e t:=by
 cases dst with
 |none=>simp
 |some d=>simp only[setDst,Env.get,Option.some.injEq,eq_comm]
theorem get_dHide(i:Nat)(os:List AOper)(t:Nat): ∀e:Env,Env.get (dHide i os e) t=if hidden i t os then .undef else Env.get e t:=by
 induction os with
 |nil=>intro e;simp[dHide,hidden]
 |cons o os ih=>
   intro e
   by_cases h1:i∈o.pre<;>cases h2:hidden i t os<;>by_cases hd:o.dst=some t<;>simp[dHide,hidden,ih,get_setDst,h1,h2,hd]
def getDid(pre:List Nat)(t:Nat):Nat→List Did→V→V
 |_,[],v=>v
 |j,r::rs,v=>getDid pre t (j+1) rs (if r.dst=some t then(if pre.contains j then r.v else .undef)else v)
theorem get_dEnv(pre:List Nat)(t:Nat)(rs:List Did): ∀(j:Nat) (e:Env),Env.get (dEnv pre j rs e) t=getDid pre t j rs (Env.get e t):=by
 induction rs with
 |nil=>intro j e;rfl
 |cons r rs ih=>intro j e;simp only[dEnv,getDid,ih,get_setDst]
attribute [simp] hidden getDid get_dEnv get_dHide
@[simp] theorem get_dSeen(o os i d rs loc0 e0 t):Env.get (dSeen o os i d rs loc0 e0) t=V.map (dropR d (dSee o rs loc0)) (if hidden i t os then .undef else getDid o.pre t 0 rs (Env.get e0 t)):=by
 rw[dSeen,get_ren,get_dHide,get_dEnv]
def spl(A B:List AOper):List AOper:=A ++B
noncomputable def drawnK(T:Tab)(B:List AOper)(loc:Loc)(rest:Stk)(live:List Nat)(e:Env):Option (List Did)→Res
 |some rs=>onlyK live (runOps T (Run T) B (dEnv (List.range rs.length) 0 rs e) (dLoc (List.range rs.length) 0 rs loc::rest))
 |none=>none
@[simp] theorem drawnK_some(B loc rest live e rs):drawnK T B loc rest live e (some rs)=onlyK live (runOps T (Run T) B (dEnv (List.range rs.length) 0 rs e) (dLoc (List.range rs.length) 0 rs loc::rest)):=rfl
@[simp] theorem drawnK_none(B loc rest live e):drawnK T B loc rest live e none=none:=rfl
@[simp] theorem drawnK_ite(B loc rest live e)(p:Prop) [Decidable p](x y):drawnK T B loc rest live e (if p then x else y)=if p then drawnK T B loc rest live e x else drawnK T B loc rest live e y:=by split<;>rfl
theorem cut_spl {A B:List AOper}(h:((cut 0 (spl A B)).1.length==A.length)=true):cut 0 (spl A B)=(A,B):=by
 have h1:=cut_append (spl A B) 0
 simp only[beq_iff_eq]at h
 have h2:=List.append_inj h1 h
 exact Prod.ext h2.1 h2.2
def eachK:Option (Env×Stk)→Res
 |some (e,s)=>some (.normal,e,s)
 |none=>none
@[simp] theorem eachK_some(e s):eachK (some (e,s))=some (.normal,e,s):=rfl
@[simp] theorem eachK_none:eachK none=none:=rfl
@[simp] theorem eachK_ite(p:Prop) [Decidable p](x y):eachK (if p then x else y)=if p then eachK x else eachK y:=by split<;>rfl
theorem run_each(A B live e s)(h:bruteOps (spl A B)=true):Run T (.region true (spl A B) live) e s=eachK (runAny T (Run T) (spl A B) live (spl A B) [] e s):=by
 rw[run_eq];simp only[step,stepDrawn,if_pos h]
 cases runAny T (Run T) (spl A B) live (spl A B) [] e s<;>rfl
def splOk(A B:List AOper):Bool:=((cut 0 (spl A B)).1.length==A.length)&& !bruteOps (spl A B)
theorem splOk_cut {A B}(h:splOk A B=true):((cut 0 (spl A B)).1.length==A.length)=true:=by simp only[splOk,Bool.and_eq_true]at h;exact h.1
theorem splOk_brute {A B}(h:splOk A B=true): ¬bruteOps (spl A B)=true:=by simp only[splOk,Bool.and_eq_true,Bool.not_eq_true']at h;rw[h.2];decide
theorem run_drawnK(A B live e loc rest)(h:splOk A B=true):Run T (.region true (spl A B) live) e (loc::rest)=drawnK T B loc rest live e (runDrawn T (Run T) loc rest e A 0 []):=by
 rw[run_eq];simp only[step,stepDrawn,cut_spl (splOk_cut h),if_neg (splOk_brute h)]
 cases runDrawn T (Run T) loc rest e A 0 []with
 |none=>rfl
 |some rs=>
   dsimp only[drawnK]
   cases runOps T (Run T) B (dEnv (List.range rs.length) 0 rs e) (dLoc (List.range rs.length) 0 rs loc::rest)<;>rfl
noncomputable def drawG(T:Tab)(o:AOper)(os:List AOper)(i:Nat)(rs:List Did)(loc0:Loc)(rest:Stk)(e0:Env)(see:List Nat):Option (V×Loc)→Option (List Did)
 |some (v,patch)=>if patch.all (fun x=>see.contains x.1||((dLoc o.pre 0 rs loc0).get x.1).isNone)&&dApart o.dst patch o.pre 0 rs then runDrawn T (Run T) loc0 rest e0 os (i+1) (rs ++[⟨o.dst,v,patch,see⟩])else none
 |none=>none
@[simp] theorem drawG_none(o os i rs loc0 rest e0 see):drawG T o os i rs loc0 rest e0 see none=none:=rfl
@[simp] theorem drawG_some(o os i rs loc0 rest e0 see v patch):drawG T o os i rs loc0 rest e0 see (some (v,patch))=if patch.all (fun x=>see.contains x.1||((dLoc o.pre 0 rs loc0).get x.1).isNone)=true∧dApart o.dst patch o.pre 0 rs=true then runDrawn T (Run T) loc0 rest e0 os (i+1) (rs ++[⟨o.dst,v,patch,see⟩]) else none:=by
 simp only[drawG]
 split<;>rename_i h<;>simp only[Bool.and_eq_true]at h
 ·rw[if_pos h]
 ·rw[if_neg h]
@[simp] theorem drawG_ite(o os i rs loc0 rest e0 see)(p:Prop) [Decidable p](x y):drawG T o os i rs loc0 rest e0 see (if p then x else y)=if p then drawG T o os i rs loc0 rest e0 see x else drawG T o os i rs loc0 rest e0 see y:=by split<;>rfl
open Classical in
noncomputable def drawK(T:Tab)(o:AOper)(os:List AOper)(i:Nat)(rs:List Did)(loc0:Loc)(rest:Stk)(e0:Env)(vis:Loc):Option (List Did):=
 if Loc.ren (dropR rest.length (vis.map (·.1))) vis=vis then drawG T o os i rs loc0 rest e0 (vis.map (·.1)) (gop T (Run T) o (dSeen o os i rest.length rs loc0 e0) vis rest)else none
@[congr] theorem drawK_congr {vis vis':Loc}(h:vis=vis')(o os i rs loc0 rest e0):drawK T o os i rs loc0 rest e0 vis=drawK T o os i rs loc0 rest e0 vis':=by rw[h]
open Classical in
@[simp] theorem drawK_eq(o os i rs loc0 rest e0 vis):drawK T o os i rs loc0 rest e0 vis=if Loc.ren (dropR rest.length (vis.map (·.1))) vis=vis then drawG T o os i rs loc0 rest e0 (vis.map (·.1)) (gop T (Run T) o (dSeen o os i rest.length rs loc0 e0) vis rest) else none:=rfl
@[simp] theorem runDrawn_nil(loc0 rest e0 i rs):runDrawn T (Run T) loc0 rest e0 [] i rs=some rs:=rfl
open Classical in
@[simp] theorem isMove_nil(dst op g pre):AOper.isMove ⟨dst,op,g,pre,[]⟩=false:=rfl
@[simp] theorem isMove_guard(dst op g pre hide):AOper.isMove ⟨dst,op,some g,pre,hide⟩=false:=by simp[AOper.isMove]
@[simp] theorem moved_mv(dst x g pre hide e):AOper.moved ⟨dst, .mv x,g,pre,hide⟩ e=x.ev e:=rfl
@[simp] theorem runDrawn_cons(loc0 rest e0 o os i rs):runDrawn T (Run T) loc0 rest e0 (o::os) i rs=if o.isMove=true then(if dApart o.dst [] o.pre 0 rs=true then runDrawn T (Run T) loc0 rest e0 os (i+1) (rs ++[⟨o.dst,o.moved (dHide i os (dEnv o.pre 0 rs e0)),[],[]⟩]) else none) else drawK T o os i rs loc0 rest e0 (dVis o rs loc0):=by
 rw[runDrawn]
 congr 1
@[simp] theorem dVis_eq(o rs loc0):dVis o rs loc0=(dLoc o.pre 0 rs loc0).filter fun x=> !(o.hide ++dHid o.pre 0 rs).contains x.1:=rfl
@[simp] theorem dSee_eq(o rs loc0):dSee o rs loc0=(dVis o rs loc0).map (·.1):=rfl
attribute [simp] dLoc dHid dApart
noncomputable def gopK(T:Tab)(want:Bool)(o:AOper)(e:Env)(vis:Loc)(rest:Stk):V→Option (V×Loc)
 | .bool b=>if b=want then dop T (Run T) o e vis rest else some (.skip,[])
 | .skip=>some (.skip,[])
 |_=>none
@[simp] theorem gopK_bool(want o e vis rest b):gopK T want o e vis rest (.bool b)=if b=want then dop T (Run T) o e vis rest else some (.skip,[]):=rfl
@[simp] theorem gopK_skip(want o e vis rest):gopK T want o e vis rest .skip=some (.skip,[]):=rfl
@[simp] theorem gop_none(dst op pre hide e vis rest):gop T (Run T) ⟨dst,op,none,pre,hide⟩ e vis rest=dop T (Run T) ⟨dst,op,none,pre,hide⟩ e vis rest:=rfl
@[simp] theorem gop_some(dst op g want pre hide e vis rest):gop T (Run T) ⟨dst,op,some (g,want),pre,hide⟩ e vis rest=gopK T want ⟨dst,op,some (g,want),pre,hide⟩ e vis rest (e.get g):=by
 simp only[gop,gopK];cases e.get g<;>rfl
def pureOp:AOp→Bool
 | .box _=>false
 | .alloc _=>false
 | .store _ _ _=>false
 | .app _ _ _ _=>false
 | .appm _ _ _ _=>false
 | .mksl _ _ _ _=>false
 | .mkslD _ _ _ _=>false
 | .litm _ _ _=>false
 | .clear _ _=>false
 | .mkmap _=>false
 | .mput _ _ _ _=>false
 | .ment _ _ _=>false
 | .mest _ _ _=>false
 | .mkmq=>false
 | .mqput _ _ _=>false
 | .call _ _=>false
 | .callv _ _=>false
 |_=>true
def pureD:Option (V×Stk)→Option (V×Loc)
 |some (v,_)=>some (v,[])
 |none=>none
@[simp] theorem pureD_some(v s):pureD (some (v,s))=some (v,[]):=rfl
@[simp] theorem pureD_none:pureD none=none:=rfl
@[simp] theorem pureD_ite(p:Prop) [Decidable p](x y):pureD (if p then x else y)=if p then pureD x else pureD y:=by split<;>rfl
theorem map_none {α β:Type} {o:Option α} {g:α→β} {v:β} {f:Eff}(h:(o.map fun a=>(g a,(none:Eff)))=some (v,f)):f=none:=by
 cases o with
 |none=>cases h
 |some a=>cases h;rfl
theorem aop_pure {op:AOp}(h:pureOp op=true) {lab e s v f}(ha:aop op lab e s=some (v,f)):f=none:=by
 cases op<;>simp only[pureOp,Bool.false_eq_true]at h<;>simp only[aop]at ha
 all_goals (repeat' (first|(split at ha)|exact map_none ha|(cases ha;rfl)|(cases ha;done)))
theorem dop_pure(dst op g pre hide e vis rest)(h:pureOp op=true):dop T (Run T) ⟨dst,op,g,pre,hide⟩ e vis rest=pureD (op1 T (Run T) ⟨dst,op,g,pre,hide⟩ e (vis::rest)):=by
 have hc:op.callOf= .other:=by cases op<;>simp_all [pureOp,AOp.callOf]
 rw[op1_other hc]
 simp only[dop,hc,AOper.dst]
 cases ha:aop op (16*dst.getD 0) e (vis::rest)with
 |none=>simp
 |some q=>
   obtain⟨v,f⟩:=q
   have:=aop_pure h ha
   subst this
   simp
@[simp] theorem dop_mv(x)(dst g pre hide e vis rest):dop T (Run T) ⟨dst, .mv x,g,pre,hide⟩ e vis rest=pureD (op1 T (Run T) ⟨dst, .mv x,g,pre,hide⟩ e (vis::rest)):=dop_pure _ _ _ _ _ _ _ _ rfl
@[simp] theorem dop_pick(c a b)(dst g pre hide e vis rest):dop T (Run T) ⟨dst, .pick c a b,g,pre,hide⟩ e vis rest=pureD (op1 T (Run T) ⟨dst, .pick c a b,g,pre,hide⟩ e (vis::rest)):=dop_pure _ _ _ _ _ _ _ _ rfl
@[simp] theorem dop_build(z ps)(dst g pre hide e vis rest):dop T (Run T) ⟨dst, .build z ps,g,pre,hide⟩ e vis rest=pureD (op1 T (Run T) ⟨dst, .build z ps,g,pre,hide⟩ e (vis::rest)):=dop_pure _ _ _ _ _ _ _ _ rfl
@[simp] theorem dop_lit(z n ps)(dst g pre hide e vis rest):dop T (Run T) ⟨dst, .lit z n ps,g,pre,hide⟩ e vis rest=pureD (op1 T (Run T) ⟨dst, .lit z n ps,g,pre,hide⟩ e (vis::rest)):=dop_pure _ _ _ _ _ _ _ _ rfl
@[simp] theorem dop_load(n a)(dst g pre hide e vis rest):dop T (Run T) ⟨dst, .load n a,g,pre,hide⟩ e vis rest=pureD (op1 T (Run T) ⟨dst, .load n a,g,pre,hide⟩ e (vis::rest)):=dop_pure _ _ _ _ _ _ _ _ rfl
@[simp] theorem dop_nilck(x)(dst g pre hide e vis rest):dop T (Run T) ⟨dst, .nilck x,g,pre,hide⟩ e vis rest=pureD (op1 T (Run T) ⟨dst, .nilck x,g,pre,hide⟩ e (vis::rest)):=dop_pure _ _ _ _ _ _ _ _ rfl
@[simp] theorem dop_bin(op x y)(dst g pre hide e vis rest):dop T (Run T) ⟨dst, .bin op x y,g,pre,hide⟩ e vis rest=pureD (op1 T (Run T) ⟨dst, .bin op x y,g,pre,hide⟩ e (vis::rest)):=dop_pure _ _ _ _ _ _ _ _ rfl
@[simp] theorem dop_un(op x)(dst g pre hide e vis rest):dop T (Run T) ⟨dst, .un op x,g,pre,hide⟩ e vis rest=pureD (op1 T (Run T) ⟨dst, .un op x,g,pre,hide⟩ e (vis::rest)):=dop_pure _ _ _ _ _ _ _ _ rfl
@[simp] theorem dop_mkfn(f first cap)(dst g pre hide e vis rest):dop T (Run T) ⟨dst, .mkfn f first cap,g,pre,hide⟩ e vis rest=pureD (op1 T (Run T) ⟨dst, .mkfn f first cap,g,pre,hide⟩ e (vis::rest)):=dop_pure _ _ _ _ _ _ _ _ rfl
@[simp] theorem dop_slice(esz x lo hi mx)(dst g pre hide e vis rest):dop T (Run T) ⟨dst, .slice esz x lo hi mx,g,pre,hide⟩ e vis rest=pureD (op1 T (Run T) ⟨dst, .slice esz x lo hi mx,g,pre,hide⟩ e (vis::rest)):=dop_pure _ _ _ _ _ _ _ _ rfl
@[simp] theorem dop_faddr(off x)(dst g pre hide e vis rest):dop T (Run T) ⟨dst, .faddr off x,g,pre,hide⟩ e vis rest=pureD (op1 T (Run T) ⟨dst, .faddr off x,g,pre,hide⟩ e (vis::rest)):=dop_pure _ _ _ _ _ _ _ _ rfl
@[simp] theorem dop_idxs(esz x i)(dst g pre hide e vis rest):dop T (Run T) ⟨dst, .idxs esz x i,g,pre,hide⟩ e vis rest=pureD (op1 T (Run T) ⟨dst, .idxs esz x i,g,pre,hide⟩ e (vis::rest)):=dop_pure _ _ _ _ _ _ _ _ rfl
@[simp] theorem dop_idxa(len esz x i)(dst g pre hide e vis rest):dop T (Run T) ⟨dst, .idxa len esz x i,g,pre,hide⟩ e vis rest=pureD (op1 T (Run T) ⟨dst, .idxa len esz x i,g,pre,hide⟩ e (vis::rest)):=dop_pure _ _ _ _ _ _ _ _ rfl
@[simp] theorem dop_ext(x i)(dst g pre hide e vis rest):dop T (Run T) ⟨dst, .ext x i,g,pre,hide⟩ e vis rest=pureD (op1 T (Run T) ⟨dst, .ext x i,g,pre,hide⟩ e (vis::rest)):=dop_pure _ _ _ _ _ _ _ _ rfl
@[simp] theorem dop_len(x)(dst g pre hide e vis rest):dop T (Run T) ⟨dst, .len x,g,pre,hide⟩ e vis rest=pureD (op1 T (Run T) ⟨dst, .len x,g,pre,hide⟩ e (vis::rest)):=dop_pure _ _ _ _ _ _ _ _ rfl
@[simp] theorem dop_eqa(ks neg x y)(dst g pre hide e vis rest):dop T (Run T) ⟨dst, .eqa ks neg x y,g,pre,hide⟩ e vis rest=pureD (op1 T (Run T) ⟨dst, .eqa ks neg x y,g,pre,hide⟩ e (vis::rest)):=dop_pure _ _ _ _ _ _ _ _ rfl
@[simp] theorem dop_slarr(n x hi)(dst g pre hide e vis rest):dop T (Run T) ⟨dst, .slarr n x hi,g,pre,hide⟩ e vis rest=pureD (op1 T (Run T) ⟨dst, .slarr n x hi,g,pre,hide⟩ e (vis::rest)):=dop_pure _ _ _ _ _ _ _ _ rfl
@[simp] theorem dop_mm(mx x y)(dst g pre hide e vis rest):dop T (Run T) ⟨dst, .mm mx x y,g,pre,hide⟩ e vis rest=pureD (op1 T (Run T) ⟨dst, .mm mx x y,g,pre,hide⟩ e (vis::rest)):=dop_pure _ _ _ _ _ _ _ _ rfl
@[simp] theorem dop_mm3(mx x y z)(dst g pre hide e vis rest):dop T (Run T) ⟨dst, .mm3 mx x y z,g,pre,hide⟩ e vis rest=pureD (op1 T (Run T) ⟨dst, .mm3 mx x y z,g,pre,hide⟩ e (vis::rest)):=dop_pure _ _ _ _ _ _ _ _ rfl
def effD(d:Nat):Option (V×Eff)→Option (V×Loc)
 |some (v,none)=>some (v,[])
 |some (v,some (d',l,x))=>if d'=d then some (v,[(l,x)])else none
 |none=>none
theorem effD_eq {dst:Option Nat} {op:AOp}(h:op.callOf= .other)(g pre hide e vis)(rest:Stk):dop T (Run T) ⟨dst,op,g,pre,hide⟩ e vis rest=effD rest.length (aop op (16*dst.getD 0) e (vis::rest)):=by
 simp only[dop,h]
 cases aop op (16*dst.getD 0) e (vis::rest)with
 |none=>rfl
 |some q=>obtain⟨v,f⟩:=q;cases f<;>rfl
@[simp] theorem effD_put(d v l x):effD d (some (v,some (d,l,x)))=some (v,[(l,x)]):=by simp[effD]
@[simp] theorem effD_pure(d v):effD d (some (v,none))=some (v,[]):=rfl
@[simp] theorem effD_none(d):effD d none=none:=rfl
@[simp] theorem effD_ite(d)(p:Prop) [Decidable p](x y):effD d (if p then x else y)=if p then effD d x else effD d y:=by split<;>rfl
@[simp] theorem dop_box(d x g pre hide e vis)(rest:Stk):dop T (Run T) ⟨some d, .box x,g,pre,hide⟩ e vis rest=if (x.ev e).isDef∧(vis.get (16*d)).isNone then some (.ptr rest.length (16*d) 0,[(16*d, .cell (x.ev e).cells)]) else none:=by
 rw[effD_eq rfl]
 simp[aop]
@[simp] theorem dop_alloc(d z g pre hide e vis)(rest:Stk):dop T (Run T) ⟨some d, .alloc z,g,pre,hide⟩ e vis rest=if (vis.get (16*d)).isNone then some (.ptr rest.length (16*d) 0,[(16*d, .cell z)]) else none:=by
 rw[effD_eq rfl]
 simp[aop]
def stD(n off l:Nat)(v:V):Option Entry→Option (V×Loc)
 |some (.cell cs)=>if v.cells.length=n∧off+n≤cs.length∧V.oneAll v.cells then some (.undef,[(l, .cell (setAll cs off v.cells))])else none
 |_=>none
@[simp] theorem stD_cell(n off l v cs):stD n off l v (some (.cell cs))=if v.cells.length=n∧off+n≤cs.length∧V.oneAll v.cells then some (.undef,[(l, .cell (setAll cs off v.cells))]) else none:=rfl
def stDR(n j l i z:Nat)(v:V)(es:List (List V)):Option (List V)→Option (V×Loc)
 |some cs=>if v.cells.length=n∧j+n≤cs.length∧V.oneAll v.cells then some (.undef,[(l, .arr z (es.set i (setAll cs j v.cells)))])else none
 |none=>none
@[simp] theorem stDR_some(n j l i z v es cs):stDR n j l i z v es (some cs)=if v.cells.length=n∧j+n≤cs.length∧V.oneAll v.cells then some (.undef,[(l, .arr z (es.set i (setAll cs j v.cells)))]) else none:=rfl
def stDE(n l q i j:Nat)(v:V):Option Entry→Option (V×Loc)
 |some (.arr z es)=>if q=es.length then stDR n j l i z v es es[i]? else none
 |_=>none
@[simp] theorem stDE_arr(n l q i j v z es):stDE n l q i j v (some (.arr z es))=if q=es.length then stDR n j l i z v es es[i]? else none:=rfl
def storeD(n:Nat)(v:V)(vis:Loc)(rest:Stk):V→Option (V×Loc)
 | .ptr d l off=>if d=rest.length then stD n off l v (vis.get l)else none
 | .eptr d l q i j=>if d=rest.length then stDE n l q i j v (vis.get l)else none
 |_=>none
@[simp] theorem storeD_ptr(n v vis rest d l off):storeD n v vis rest (.ptr d l off)=if d=rest.length then stD n off l v (vis.get l) else none:=rfl
@[simp] theorem storeD_eptr(n v vis rest d l q i j):storeD n v vis rest (.eptr d l q i j)=if d=rest.length then stDE n l q i j v (vis.get l) else none:=rfl
@[simp] theorem dop_store(dst n a v g pre hide e vis)(rest:Stk):dop T (Run T) ⟨dst, .store n a v,g,pre,hide⟩ e vis rest=storeD n (v.ev e) vis rest (a.ev e):=by
 simp only[dop,AOp.callOf,aop,storeD]
 cases a.ev e<;>try rfl
 ·rename_i d l off
  dsimp only
  by_cases hd:d=rest.length
  ·subst hd
   simp only[sget_top,dep_cons,if_true,stD]
   cases Loc.get vis l<;>try rfl
   rename_i x;cases x<;>try rfl
   dsimp only
   split<;>rename_i h<;>split at h<;>simp_all
  ·simp only[hd,if_false,dep_cons]
   cases sget (vis::rest) d l<;>try rfl
   rename_i x;cases x<;>try rfl
   dsimp only
   cases (v.ev e).down d<;>try rfl
   dsimp only
   split<;>rename_i h<;>split at h<;>simp_all
 ·rename_i d l q i j
  dsimp only
  by_cases hd:d=rest.length
  ·subst hd
   simp only[sget_top,dep_cons,if_true,stDE,stDR]
   cases Loc.get vis l<;>try rfl
   rename_i x;cases x<;>try rfl
   rename_i z es
   dsimp only
   by_cases hqe:q=es.length
   case neg=>simp only[hqe,if_false]
   simp only[hqe,if_true]
   cases es[i]? <;>try rfl
   dsimp only
   split<;>rename_i h<;>split at h<;>simp_all
  ·simp only[hd,if_false,dep_cons]
   cases sget (vis::rest) d l<;>try rfl
   rename_i x;cases x<;>try rfl
   rename_i z es
   dsimp only
   by_cases hqe:q=es.length
   case neg=>simp only[hqe,if_false]
   simp only[hqe,if_true]
   cases es[i]? <;>try rfl
   dsimp only
   cases (v.ev e).down d<;>try rfl
   dsimp only
   split<;>rename_i h<;>split at h<;>simp_all
open Classical in
noncomputable def newK(vis:Loc)(rest:Stk):Option (V×Stk)→Option (V×Loc)
 |some (v,s')=>if s'=(vis ++(s'.headD []).drop vis.length)::rest∧distinct ((vis ++(s'.headD []).drop vis.length).map (·.1))=true then some (v,(s'.headD []).drop vis.length)else none
 |none=>none
open Classical in
@[simp] theorem newK_some(vis rest v loc s'):newK vis rest (some (v,loc::s'))=if (loc=vis ++loc.drop vis.length∧s'=rest)∧distinct ((vis ++loc.drop vis.length).map (·.1))=true then some (v,loc.drop vis.length) else none:=by simp[newK]
@[simp] theorem newK_none(vis rest):newK vis rest none=none:=rfl
@[simp] theorem newK_ite(vis rest)(p:Prop) [Decidable p](x y):newK vis rest (if p then x else y)=if p then newK vis rest x else newK vis rest y:=by split<;>rfl
@[simp] theorem dop_call(d f args g pre hide e vis)(rest:Stk):dop T (Run T) ⟨some d, .call f args,g,pre,hide⟩ e vis rest=newK vis rest (den T f (V.stripAll (opdAll e args)) (16*d) (vis::rest)):=by
 simp only[dop,AOp.callOf,op1,newK,Option.getD_some,den]
 cases enter T (Run T) f (V.stripAll (opdAll e args)) (16*d) (vis::rest)<;>rfl
@[simp] theorem dop_callv(d x args g pre hide e vis)(rest:Stk):dop T (Run T) ⟨some d, .callv x args,g,pre,hide⟩ e vis rest=newK vis rest (denV T (x.ev e) (V.stripAll (opdAll e args)) (16*d) (vis::rest)):=by
 simp only[dop,AOp.callOf,op1,newK,Option.getD_some,denV]
 cases enterV T (Run T) (x.ev e) (V.stripAll (opdAll e args)) (16*d) (vis::rest)<;>rfl
theorem dop_app(d esz bytes x y g pre hide e vis)(rest:Stk):dop T (Run T) ⟨some d, .app esz bytes x y,g,pre,hide⟩ e vis rest=effD rest.length (aop (.app esz bytes x y) (16*d) e (vis::rest)):=by
 simp only[dop,AOp.callOf,effD,Option.getD_some]
 cases aop (.app esz bytes x y) (16*d) e (vis::rest)with
 |none=>rfl
 |some q=>obtain⟨v,f⟩:=q;cases f<;>rfl
def appD(esz bytes lab:Nat)(vis:Loc)(rest:Stk)(x y:V):Option (V×Loc):=effD rest.length (match x,y with
 | .sl c z es, .sl _ z' fs=>
   if (es.length+fs.length)*bytes≤140737488355328∧es.length+fs.length<140737488355328∧(z=esz∨es=[])∧(z'=esz∨fs=[])then
    match c with
    | .no=>if fs=[]then some (.sl .no z es,none)else none
    | .full=>if fs=[]then some (.sl .full z es,none)else
      if (sget (vis::rest) (dep (vis::rest)) lab).isNone∧vis::rest≠[]then some (.sl (.own (dep (vis::rest)) lab) esz (es ++fs),some (dep (vis::rest),lab, .tok (es.length+fs.length)))else none
    | .own d l=>match sget (vis::rest) d l with
      |some (.tok n)=>if n=es.length∧z=esz then some (.sl (.own d l) esz (es ++fs),some (d,l, .tok (es.length+fs.length)))else none
      |_=>none
   else none
 | .asl d l z q o k, .sl _ z' fs=>match sget (vis::rest) d l with
   |some (.arr z0 es)=>if (es.length+fs.length)*bytes≤140737488355328∧es.length+fs.length<140737488355328∧q=es.length∧o=0∧k=q∧z=esz∧z0=esz∧(z'=esz∨fs=[])then
    (if fs=[]then some (.asl d l z q 0 k,none)else some (.asl d l esz (es.length+fs.length) 0 (es.length+fs.length),some (d,l, .arr esz (es ++fs))))else none
   |some (.harr lo z0 es)=>if (es.length+fs.length)*bytes≤140737488355328∧es.length+fs.length<140737488355328∧q=es.length∧o=0∧k=q∧z=esz∧z0=esz∧z'=esz∧fs≠[]∧d=dep (vis::rest)then
    some (.asl d l esz (es.length+fs.length) 0 (es.length+fs.length),some (d,l, .harr lo esz (es ++fs)))else none
   |_=>none
 | .asl d l z q o k, .asl d2 l2 z2 q2 o2 k2=>match sget (vis::rest) d l,sget (vis::rest) d2 l2 with
   |some (.arr z0 es),some (.arr z3 gs)=>if (es.length+k2)*bytes≤140737488355328∧es.length+k2<140737488355328∧q=es.length∧o=0∧k=q∧z=esz∧z0=esz∧z2=esz∧z3=esz∧
    q2=gs.length∧o2+k2≤gs.length∧k2≠0∧d=dep (vis::rest)∧d2=dep (vis::rest)∧l≠l2∧(gs.all V.oneAll)=true then
    some (.asl d l esz (es.length+k2) 0 (es.length+k2),some (d,l, .arr esz (es ++(gs.drop o2).take k2)))else none
   |_,_=>none
 |_,_=>none)
@[simp] theorem dop_app'(d esz bytes x y g pre hide e vis)(rest:Stk):dop T (Run T) ⟨some d, .app esz bytes x y,g,pre,hide⟩ e vis rest=appD esz bytes (16*d) vis rest (x.ev e) (y.ev e):=by
 rw[dop_app];rfl
def appmD(esz bytes lab:Nat)(vis:Loc)(rest:Stk)(x y:V):Option (V×Loc):=effD rest.length (match x with
 | .sl .full z []=>match (match y with
  | .sl _ z' fs=>if z'=esz∨fs=[]then some fs else none
  | .asl d l z' q o n=>match sget (vis::rest) d l with
    |some (.arr _ fs)=>if z'=esz∧q=fs.length∧o+n≤fs.length then some (((fs.map V.stripAll).drop o).take n)else none
    |_=>none
  | .csl (.ptr d l o) n=>match sget (vis::rest) d l with
    |some (.cell cs)=>if esz=1∧o+n≤cs.length then some (((cs.drop o).take n).map fun v=>[v])else none
    |_=>none
  |_=>none)with
   |some fs=>if fs.length*bytes≤140737488355328∧fs.length<140737488355328∧(z=esz∨fs=[])∧(sget (vis::rest) (dep (vis::rest)) lab).isNone∧vis::rest≠[]then
    some (.asl (dep (vis::rest)) lab esz fs.length 0 fs.length,some (dep (vis::rest),lab, .arr esz fs))else none
   |none=>none
 |_=>none)
@[simp] theorem dop_appm(d esz bytes x y g pre hide e vis)(rest:Stk):dop T (Run T) ⟨some d, .appm esz bytes x y,g,pre,hide⟩ e vis rest=appmD esz bytes (16*d) vis rest (x.ev e) (y.ev e):=by
 simp only[dop,AOp.callOf,Option.getD_some]
 change (match aop (.appm esz bytes x y) (16*d) e (vis::rest)with|some (v,none)=>some (v,[])|some (v,some (d',l,x'))=>if d'=rest.length then some (v,[(l,x')])else none|none=>none)=effD rest.length (aop (.appm esz bytes x y) (16*d) e (vis::rest))
 cases aop (.appm esz bytes x y) (16*d) e (vis::rest)with
 |none=>rfl
 |some q=>obtain⟨v,f⟩:=q;cases f<;>rfl
theorem appmD_sl(esz bytes lab vis)(rest:Stk)(z c' z' fs)(h1:fs.length*bytes≤140737488355328)(h2:fs.length<140737488355328)(h3:z=esz∨fs=[])(h4:z'=esz∨fs=[])(h6:Loc.get vis lab=none):
 appmD esz bytes lab vis rest (.sl .full z []) (.sl c' z' fs)=some (.asl rest.length lab esz fs.length 0 fs.length,[(lab, .arr esz fs)]):=by
 simp[appmD,effD,h1,h2,h3,h4,h6]
def nxt {σ:Type}(E:σ→Env)(S:σ→Stk):σ⊕(Ex×Env×Stk)→Res
 | .inl a=>some (.normal,E a,S a)
 | .inr q=>some q
@[simp] theorem nxt_inl {σ:Type}(E:σ→Env)(S:σ→Stk)(a):nxt E S (.inl a)=some (.normal,E a,S a):=rfl
@[simp] theorem nxt_inr {σ:Type}(E:σ→Env)(S:σ→Stk)(q):nxt E S (.inr q)=some q:=rfl
@[simp] theorem nxt_ite {σ:Type}(E:σ→Env)(S:σ→Stk)(p:Prop) [Decidable p](x y):nxt E S (if p then x else y)=if p then nxt E S x else nxt E S y:=by split<;>rfl
def gcN(live keep:List Nat):Res→Res
 |some (.normal,e,s)=>some (.normal,gcEnv live keep e s,gcStk keep s)
 |r=>r
@[simp] theorem gcN_normal(live keep e s):gcN live keep (some (.normal,e,s))=some (.normal,gcEnv live keep e s,gcStk keep s):=rfl
@[simp] theorem gcN_ret(live keep e s):gcN live keep (some (.ret,e,s))=some (.ret,e,s):=rfl
@[simp] theorem gcN_exit(live keep id e s):gcN live keep (some (.exit id,e,s))=some (.exit id,e,s):=rfl
@[simp] theorem gcN_ite(live keep)(p:Prop) [Decidable p](x y):gcN live keep (if p then x else y)=if p then gcN live keep x else gcN live keep y:=by split<;>rfl
theorem run_head(live keep:List Nat)(b:AC)(e:Env)(s:Stk) {e':Env} {s':Stk}(h1:gcEnv live keep e s=e')(h2:gcStk keep s=s'):Run T (.loop live keep b) e s=thenRun T (Run T b e' s') (.loop live keep b):=by
 rw[run_loop,h1,h2]
def allB {α:Type}(p:α→Bool)(l:List α):Bool:=l.all p
def anyB {α:Type}(p:α→Bool)(l:List α):Bool:=l.any p
def iter {σ ρ:Type}(step:Nat→σ→σ⊕ρ)(fin:σ→ρ):Nat→Nat→σ→ρ
 |0,_,a=>fin a
 |m+1,k,a=>match step k a with
   | .inl a'=>iter step fin m (k+1) a'
   | .inr q=>q
theorem loop_iter {live keep:List Nat} {b:AC} {σ:Type}(n:Nat)(I:Nat→σ→Prop)(E:Nat→σ→Env)(S:Nat→σ→Stk)(step:Nat→σ→σ⊕(Ex×Env×Stk))(fin:σ→Ex×Env×Stk)
 (hs: ∀k a,k<n→I k a→gcN live keep (Run T b (E k a) (S k a))=nxt (E (k+1)) (S (k+1)) (step k a)∧(∀a',step k a= .inl a'→I (k+1) a')∧ ∀q,step k a= .inr q→q.1≠ .normal)
 (hf: ∀a,I n a→Run T b (E n a) (S n a)=some (fin a)∧(fin a).1≠ .normal):
 ∀m k a,k+m=n→I k a→ ∀e s,gcEnv live keep e s=E k a→gcStk keep s=S k a→Run T (.loop live keep b) e s=some (iter step fin m k a):=by
 intro m
 induction m with
 |zero=>
   intro k a hk hi e s he hse
   obtain rfl:k=n:=by omega
   obtain⟨h1,h2⟩:=hf a hi
   rw[run_head _ _ _ _ _ he hse,h1]
   generalize fin a=q at h1 h2
   obtain⟨ex,e,s⟩:=q
   cases ex<;>simp_all [thenRun,iter]
 |succ m ih=>
   intro k a hk hi e s he hse
   obtain⟨h1,h2,h3⟩:=hs k a (by omega) hi
   rw[run_head _ _ _ _ _ he hse]
   cases hr:Run T b (E k a) (S k a)with
   |none=>
     rw[hr]at h1
     cases hst:step k a<;>rw[hst]at h1<;>cases h1
   |some q=>
     obtain⟨ex,e1,s1⟩:=q
     rw[hr]at h1
     cases hst:step k a with
     |inl a'=>
       rw[hst]at h1
       cases ex with
       |normal=>
         simp only[gcN_normal,nxt_inl,Option.some.injEq,Prod.mk.injEq,true_and]at h1
         rw[thenRun_normal,ih (k+1) a' (by omega) (h2 a' hst) e1 s1 h1.1 h1.2]
         simp[iter,hst]
       |exit id=>simp at h1
       |ret=>simp at h1
     |inr q=>
       have:=h3 q hst
       rw[hst]at h1
       cases ex with
       |normal=>simp only[gcN_normal,nxt_inr,Option.some.injEq]at h1;rw[←h1]at this;exact absurd rfl this
       |exit id=>simp only[gcN_exit,nxt_inr,Option.some.injEq]at h1;subst h1;simp[iter,hst]
       |ret=>simp only[gcN_ret,nxt_inr,Option.some.injEq]at h1;subst h1;simp[iter,hst]
def foldS {α σ ρ:Type}(step:σ→α→σ⊕ρ)(fin:σ→ρ):List α→σ→ρ
 |[],a=>fin a
 |x::r,a=>match step a x with
   | .inl a'=>foldS step fin r a'
   | .inr q=>q
theorem iter_drop {α σ ρ:Type}(step:Nat→σ→σ⊕ρ)(step':σ→α→σ⊕ρ)(fin:σ→ρ)(l:List α)(h: ∀(k:Nat) (a:σ) x,l[k]? =some x→step k a=step' a x):
 ∀m k a,k+m=l.length→iter step fin m k a=foldS step' fin (l.drop k) a:=by
 intro m
 induction m with
 |zero=>intro k a hk;rw[List.drop_eq_nil_of_le (by omega)];rfl
 |succ m ih=>
   intro k a hk
   have hlt:k<l.length:=by omega
   rw[List.drop_eq_getElem_cons hlt]
   simp only[iter,foldS]
   rw[h k a l[k] (List.getElem?_eq_getElem hlt)]
   cases step' a l[k]with
   |inl a'=>exact ih (k+1) a' (by omega)
   |inr q=>rfl
theorem foldS_all {α σ ρ:Type}(p:α→Bool)(q:ρ)(fin:σ→ρ)(l:List α)(a:σ):foldS (fun a x=>if p x=true then .inl a else .inr q) fin l a=if l.all p=true then fin a else q:=by
 induction l with
 |nil=>simp[foldS]
 |cons x r ih=>
   by_cases h:p x=true
   ·simp[foldS,h,ih]
   ·simp[foldS,h]
theorem foldS_fold {α σ ρ:Type}(g:σ→α→σ)(fin:σ→ρ)(l:List α)(a:σ):foldS (fun a x=> .inl (g a x)) fin l a=fin (l.foldl g a):=by
 induction l generalizing a with
 |nil=>rfl
 |cons x r ih=>simp[foldS,ih]
theorem loop_list {live keep:List Nat} {b:AC} {α σ:Type}(l:List α)(I:Nat→σ→Prop)(E:Nat→σ→Env)(S:Nat→σ→Stk)(step:σ→α→σ⊕(Ex×Env×Stk))(fin:σ→Ex×Env×Stk)
 (hs: ∀k a (hk:k<l.length),I k a→gcN live keep (Run T b (E k a) (S k a))=nxt (E (k+1)) (S (k+1)) (step a l[k]))
 (hI: ∀k a a' (hk:k<l.length),I k a→step a l[k]= .inl a'→I (k+1) a')
 (hq: ∀k a q (hk:k<l.length),I k a→step a l[k]= .inr q→q.1≠ .normal)
 (hf: ∀a,I l.length a→Run T b (E l.length a) (S l.length a)=some (fin a))
 (hn: ∀a,(fin a).1≠ .normal) (a:σ) (h0:I 0 a) (e:Env) (s:Stk) (he:gcEnv live keep e s=E 0 a) (hse:gcStk keep s=S 0 a):
 Run T (.loop live keep b) e s=some (foldS step fin l a):=by
 have:=loop_iter (T:=T) (live:=live) (keep:=keep) (b:=b) l.length I E S (fun k a=>match l[k]? with
  |some x=>step a x
  |none=> .inr (fin a)) fin (fun k a hk hi=>by
    have hx:l[k]? =some l[k]:=List.getElem?_eq_getElem hk
    simp only[hx]
    exact⟨hs k a hk hi,fun a' h=>hI k a a' hk hi h,fun q h=>hq k a q hk hi h⟩) (fun a hi=>⟨hf a hi,hn a⟩) l.length 0 a (by omega) h0 e s he hse
 rw[this,iter_drop _ step fin l (fun k a x h=>by simp only[h]) l.length 0 a (by omega)]
 rfl
theorem loop_list0 {live keep:List Nat} {b:AC} {α σ:Type}(l:List α)(E:Nat→σ→Env)(S:Nat→σ→Stk)(step:σ→α→σ⊕(Ex×Env×Stk))(fin:σ→Ex×Env×Stk)
 (hs: ∀k a (hk:k<l.length),gcN live keep (Run T b (E k a) (S k a))=nxt (E (k+1)) (S (k+1)) (step a l[k]))
 (hq: ∀a x q,step a x= .inr q→q.1≠ .normal)
 (hf: ∀a,Run T b (E l.length a) (S l.length a)=some (fin a))
 (hn: ∀a,(fin a).1≠ .normal) (a:σ) (e:Env) (s:Stk) (he:gcEnv live keep e s=E 0 a) (hse:gcStk keep s=S 0 a):
 Run T (.loop live keep b) e s=some (foldS step fin l a):=
 loop_list l (fun _ _=>True) E S step fin (fun k a hk _=>hs k a hk) (fun _ _ _ _ _ _=>trivial) (fun _ a q _ _ h=>hq a _ q h) (fun a _=>hf a) hn a trivial e s he hse
theorem loop_all {live keep:List Nat} {b:AC} {α:Type}(l:List α)(p:α→Bool)(E:Nat→Env)(S:Nat→Stk)(q r:Ex×Env×Stk)(hq:q.1≠ .normal)(hr:r.1≠ .normal)
 (hs: ∀k (hk:k<l.length),gcN live keep (Run T b (E k) (S k))=if p l[k]=true then some (.normal,E (k+1),S (k+1))else some q)
 (hf:Run T b (E l.length) (S l.length)=some r) (e:Env) (s:Stk) (he:gcEnv live keep e s=E 0) (hse:gcStk keep s=S 0):
 Run T (.loop live keep b) e s=if allB p l=true then some r else some q:=by
 have:=loop_list0 (T:=T) (live:=live) (keep:=keep) (b:=b) l (fun k (_:Unit)=>E k) (fun k _=>S k) (fun a x=>if p x=true then .inl a else .inr q) (fun _=>r)
  (fun k a hk=>by rw[hs k hk];split<;>rfl) (fun a x q' h=>by split at h<;>simp_all) (fun _=>hf) (fun _=>hr) () e s he hse
 rw[this,foldS_all,allB]
 split<;>rfl
theorem loop_all_g {live keep:List Nat} {b:AC} {α γ:Type} [Inhabited γ](l:List α)(p:α→Bool)(E:Nat→Env)(S:Nat→Stk)(q:γ→Ex×Env×Stk)(r:Ex×Env×Stk)(hq: ∀g,(q g).1≠ .normal)(hr:r.1≠ .normal)
 (hs: ∀k (hk:k<l.length),∃g,gcN live keep (Run T b (E k) (S k))=if p l[k]=true then some (.normal,E (k+1),S (k+1))else some (q g))
 (hf:Run T b (E l.length) (S l.length)=some r) (e:Env) (s:Stk) (he:gcEnv live keep e s=E 0) (hse:gcStk keep s=S 0):
 ∃g,Run T (.loop live keep b) e s=if allB p l=true then some r else some (q g):=by
 have key: ∀m k,k+m=l.length→ ∃g,∀e s,gcEnv live keep e s=E k→gcStk keep s=S k→Run T (.loop live keep b) e s=if (l.drop k).all p=true then some r else some (q g):=by
  intro m
  induction m with
  |zero=>
    intro k hk
    refine⟨default,fun e s he hse=> ?_⟩
    obtain rfl:k=l.length:=by omega
    rw[run_head _ _ _ _ _ he hse,hf]
    obtain⟨ex,e,s⟩:=r
    cases ex<;>simp_all [thenRun]
  |succ m ih=>
    intro k hk
    have hlt:k<l.length:=by omega
    obtain⟨g1,h1⟩:=hs k hlt
    obtain⟨g2,h2⟩:=ih (k+1) (by omega)
    rw[List.drop_eq_getElem_cons hlt]
    cases hr:Run T b (E k) (S k)with
    |none=>rw[hr]at h1;split at h1<;>cases h1
    |some y=>
      obtain⟨ex,e1,s1⟩:=y
      rw[hr]at h1
      by_cases hp:p l[k]=true
      ·rw[if_pos hp]at h1
       refine⟨g2,fun e s he hse=> ?_⟩
       rw[run_head _ _ _ _ _ he hse,hr]
       cases ex with
       |normal=>
         simp only[gcN_normal,Option.some.injEq,Prod.mk.injEq,true_and]at h1
         rw[thenRun_normal,h2 e1 s1 h1.1 h1.2]
         simp only[List.all_cons,hp,Bool.true_and]
       |exit id=>simp at h1
       |ret=>simp at h1
      ·rw[if_neg hp]at h1
       refine⟨g1,fun e s he hse=> ?_⟩
       rw[run_head _ _ _ _ _ he hse,hr]
       have:=hq g1
       cases ex with
       |normal=>simp only[gcN_normal,Option.some.injEq]at h1;rw[←h1]at this;exact absurd rfl this
       |exit id=>simp only[gcN_exit,Option.some.injEq]at h1;simp only[List.all_cons,Bool.eq_false_iff.2 hp,Bool.false_and,Bool.false_eq_true,if_false,←h1,thenRun_exit]
       |ret=>simp only[gcN_ret,Option.some.injEq]at h1;simp only[List.all_cons,Bool.eq_false_iff.2 hp,Bool.false_and,Bool.false_eq_true,if_false,←h1,thenRun_ret]
 obtain⟨g,h⟩:=key l.length 0 (by omega)
 exact⟨g,by rw[h e s he hse];simp[allB]⟩
theorem loop_fold {live keep:List Nat} {b:AC} {α σ:Type}(l:List α)(I:Nat→σ→Prop)(g:σ→α→σ)(E:Nat→σ→Env)(S:Nat→σ→Stk)(fin:σ→Ex×Env×Stk)(hn: ∀a,(fin a).1≠ .normal)
 (hs: ∀k a (hk:k<l.length),I k a→gcN live keep (Run T b (E k a) (S k a))=some (.normal,E (k+1) (g a l[k]),S (k+1) (g a l[k])))
 (hI: ∀k a (hk:k<l.length),I k a→I (k+1) (g a l[k]))
 (hf: ∀a,I l.length a→Run T b (E l.length a) (S l.length a)=some (fin a)) (a:σ) (h0:I 0 a) (e:Env) (s:Stk) (he:gcEnv live keep e s=E 0 a) (hse:gcStk keep s=S 0 a):
 Run T (.loop live keep b) e s=some (fin (l.foldl g a)):=by
 have:=loop_list (T:=T) (live:=live) (keep:=keep) (b:=b) l I E S (fun a x=> .inl (g a x)) fin (fun k a hk hi=>by rw[hs k a hk hi];rfl) (fun k a a' hk hi h=>by cases h;exact hI k a hk hi) (fun _ _ _ _ _ h=>by cases h) hf hn a h0 e s he hse
 rw[this,foldS_fold]
def es {α:Type}(f:α→List V)(l:List α):List (List V):=l.map f
section
variable {α : Type} (f : α → List V)
@[simp] theorem es_nil:es f []=[]:=rfl
@[simp] theorem es_length(l):(es f l).length=l.length:=by simp[es]
@[simp] theorem es_get(l:List α)(k:Nat):(es f l)[k]? =l[k]?.map f:=by simp[es]
@[simp] theorem es_at(l:List α)(k:Nat)(h:k<(es f l).length):(es f l)[k]=f (l[k]'(by simpa using h)):=by simp[es]
@[simp] theorem es_eq_nil(l:List α):es f l=[]↔l=[]:=by simp[es]
@[simp] theorem es_app(a b:List α):es f a ++es f b=es f (a ++b):=by simp[es]
@[simp] theorem es_take(a:List α)(n:Nat):(es f a).take n=es f (a.take n):=by simp[es]
@[simp] theorem es_drop(a:List α)(n:Nat):(es f a).drop n=es f (a.drop n):=by simp[es]
end
@[simp] def cInt(n:Int):List V:=[i64 n]
@[simp] theorem es_int1(l:List Int)(n:Int):es cInt l ++[[i64 n]]=es cInt (l ++[n]):=by simp[es]
def cInts(l:List Int):List V:=[.sl .no 1 (es cInt l)]
@[simp] theorem cInts_eq(l:List Int):cInts l=[.sl .no 1 (es cInt l)]:=rfl
structure Sp where
 lo:Int
 hi:Int
 deriving DecidableEq,Inhabited
@[simp] def cSp(s:Sp):List V:=[i64 s.lo,i64 s.hi]
@[simp] theorem Sp.eta(s:Sp):Sp.mk s.lo s.hi=s:=rfl
theorem wk(k:Nat)(h:k<4611686018427387904):IntKind.i64.wrap ((k:Int)+1)=(k:Int)+1:=by rw[w64];omega
theorem wi(n:Int)(h1: -9223372036854775808≤n)(h2:n≤9223372036854775807):IntKind.i64.wrap n=n:=w64 n ⟨h1,h2⟩
section
variable {α : Type} (f : α → List V)
@[simp] theorem es_map(r:Ren)(h: ∀x,V.mapAll r (f x)=f x)(l:List α):(es f l).map (V.mapAll r)=es f l:=by simp[es,h]
@[simp] theorem es_strip(h: ∀x,V.stripAll (f x)=f x)(l:List α):(es f l).map V.stripAll=es f l:=by simp[es,h]
theorem elemsOk_es(n:Nat)(h: ∀x,V.elemAll (f x)=true∧(f x).length=n)(l:List α):elemsOk (es f l) n=true:=by simp[elemsOk,es,h]
end
end
end Go.Ab

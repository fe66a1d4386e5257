/-
  Layer 1's helpers of the references, and the types of layers 2, 5 and 13.
-/
import Derived.Test.YtoedpegjoccnlaaGreatPtab
import Derived.Test.YtoedpegjoccnlaaGreatEq1
import Derived.Test.YtoedpegjoccnlaaGreatAb7
set_option linter.unusedSimpArgs false
set_option linter.unusedVariables false
namespace Go.Proofs.YtoedpegjoccnlaaGreat.A
open Go.Ab
@[simp] theorem map_cInt(r:Ren)(l):(es cInt l).map (V.mapAll r)=es cInt l:=es_map _ _ (fun _=>by simp) _
@[simp] theorem strip_cInt(l):(es cInt l).map V.stripAll=es cInt l:=es_strip _ (fun _=>by simp) _
@[simp] theorem refs_cInt(own:Bool)(d:Nat)(l):(es cInt l).flatMap (V.refsAll own d)=[]:=es_refs _ _ _ (fun _=>by simp) _
@[simp] theorem elems_cInt(l):elemsOk (es cInt l) 1=true:=elemsOk_es _ _ (fun _=>by simp) _
@[simp] theorem map_cSp(r:Ren)(l):(es cSp l).map (V.mapAll r)=es cSp l:=es_map _ _ (fun _=>by simp) _
@[simp] theorem strip_cSp(l):(es cSp l).map V.stripAll=es cSp l:=es_strip _ (fun _=>by simp) _
@[simp] theorem refs_cSp(own:Bool)(d:Nat)(l):(es cSp l).flatMap (V.refsAll own d)=[]:=es_refs _ _ _ (fun _=>by simp) _
@[simp] theorem elems_cSp(l):elemsOk (es cSp l) 2=true:=elemsOk_es _ _ (fun _=>by simp) _
structure Anc where
 weight:Int
 bottom:Int
 deriving DecidableEq,Inhabited
@[simp] def cAnc(a:Anc):List V:=[i64 a.weight,i64 a.bottom]
@[simp] theorem map_cAnc(r:Ren)(l):(es cAnc l).map (V.mapAll r)=es cAnc l:=es_map _ _ (fun _=>by simp) _
@[simp] theorem strip_cAnc(l):(es cAnc l).map V.stripAll=es cAnc l:=es_strip _ (fun _=>by simp) _
@[simp] theorem refs_cAnc(own:Bool)(d:Nat)(l):(es cAnc l).flatMap (V.refsAll own d)=[]:=es_refs _ _ _ (fun _=>by simp) _
@[simp] theorem elems_cAnc(l):elemsOk (es cAnc l) 2=true:=elemsOk_es _ _ (fun _=>by simp) _
@[simp] theorem Anc.eta(s:Anc):Anc.mk s.weight s.bottom=s:=rfl
structure Wal where
 sail:Int
 drag:Int
 lean:Int
 corks:Int
 stones:Int
 deriving DecidableEq,Inhabited
@[simp] def cWal(a:Wal):List V:=[i64 a.sail,i64 a.drag,i64 a.lean,i64 a.corks,i64 a.stones]
@[simp] theorem map_cWal(r:Ren)(l):(es cWal l).map (V.mapAll r)=es cWal l:=es_map _ _ (fun _=>by simp) _
@[simp] theorem strip_cWal(l):(es cWal l).map V.stripAll=es cWal l:=es_strip _ (fun _=>by simp) _
@[simp] theorem refs_cWal(own:Bool)(d:Nat)(l):(es cWal l).flatMap (V.refsAll own d)=[]:=es_refs _ _ _ (fun _=>by simp) _
@[simp] theorem elems_cWal(l):elemsOk (es cWal l) 5=true:=elemsOk_es _ _ (fun _=>by simp) _
@[simp] theorem Wal.eta(s:Wal):Wal.mk s.sail s.drag s.lean s.corks s.stones=s:=rfl
structure Net where
 wind:Sp
 cur:Sp
 grips:List Sp
 anch:List Anc
 walls:List Wal
@[simp] theorem Net.eta(s:Net):Net.mk s.wind s.cur s.grips s.anch s.walls=s:=rfl
structure Boat where
 carry:Int
 pence:Int
 deriving DecidableEq,Inhabited
@[simp] def cBoat(a:Boat):List V:=[i64 a.carry,i64 a.pence]
@[simp] theorem map_cBoat(r:Ren)(l):(es cBoat l).map (V.mapAll r)=es cBoat l:=es_map _ _ (fun _=>by simp) _
@[simp] theorem strip_cBoat(l):(es cBoat l).map V.stripAll=es cBoat l:=es_strip _ (fun _=>by simp) _
@[simp] theorem refs_cBoat(own:Bool)(d:Nat)(l):(es cBoat l).flatMap (V.refsAll own d)=[]:=es_refs _ _ _ (fun _=>by simp) _
@[simp] theorem elems_cBoat(l):elemsOk (es cBoat l) 2=true:=elemsOk_es _ _ (fun _=>by simp) _
@[simp] theorem Boat.eta(s:Boat):Boat.mk s.carry s.pence=s:=rfl
structure Sea where
 weight:Sp
 places:List Sp
 boats:List Boat
@[simp] theorem Sea.eta(s:Sea):Sea.mk s.weight s.places s.boats=s:=rfl
structure Sky where
 wind:Sp
 cur:Sp
 deriving DecidableEq,Inhabited
@[simp] def cSky(a:Sky):List V:=[i64 a.wind.lo,i64 a.wind.hi,i64 a.cur.lo,i64 a.cur.hi]
@[simp] theorem map_cSky(r:Ren)(l):(es cSky l).map (V.mapAll r)=es cSky l:=es_map _ _ (fun _=>by simp) _
@[simp] theorem strip_cSky(l):(es cSky l).map V.stripAll=es cSky l:=es_strip _ (fun _=>by simp) _
@[simp] theorem refs_cSky(own:Bool)(d:Nat)(l):(es cSky l).flatMap (V.refsAll own d)=[]:=es_refs _ _ _ (fun _=>by simp) _
@[simp] theorem elems_cSky(l):elemsOk (es cSky l) 4=true:=elemsOk_es _ _ (fun _=>by simp) _
@[simp] theorem Sky.eta(s:Sky):Sky.mk s.wind s.cur=s:=rfl
structure Season where
 net:Net
 sea:Sea
 skies:List Sky
 follows:List (List Int)
 first:List Int
 days:List Sp
@[simp] theorem Season.eta(s:Season):Season.mk s.net s.sea s.skies s.follows s.first s.days=s:=rfl
@[simp] theorem e_Within(n lo hi:Int)(lab s):den T 9 [i64 n,i64 lo,i64 hi] lab s=some (.bool (wiB n lo hi),s):=by
 rw[den_fn t9 _ _ _ rfl]
 simp only[b9]
 by_cases h:lo≤n<;>simp[h,wiB]
theorem e_In_l(l:List Int)(n:Int)(s:Stk)(hl:l.length<4611686018427387904):
 Run T b18l0 [(0, .sl .no 1 (es cInt l)),(1,i64 n),(5,i64 0)] ([]::s)=if anyB (fun x=>decide (x=n)) l=true then some (.ret,[(4, .bool true)],[]::s)else some (.exit 0,[(0, .sl .no 1 (es cInt l)),(1,i64 n),(5,i64 l.length),(9, .bool false)],[]::s):=by
 refine loop_any l (fun x=>decide (x=n)) (fun k=>[(0, .sl .no 1 (es cInt l)),(1,i64 n),(5,i64 k)]) (fun _=>[]::s) _ _ (by simp) (by simp) ?_ (by simp) _ _ (by simp) (by simp)
 intro k hk
 by_cases h:l[k]=n<;>simp[hk,h,wk k (by omega)]
@[simp] theorem e_In(l:List Int)(n:Int)(hl:l.length<4611686018427387904)(lab s):
 den T 18 [.sl .no 1 (es cInt l),i64 n] lab s=some (.bool (anyB (fun x=>decide (x=n)) l),s):=by
 rw[den_fn t18 _ _ _ rfl]
 simp only[b18]
 cases hx:anyB (fun x=>decide (x=n)) l<;>simp[e_In_l,hl,hx]
end Go.Proofs.YtoedpegjoccnlaaGreat.A

/-
  The references' Check of layers 2, 5 and 13.
-/
namespace Go.Proofs.YtoedpegjoccnlaaGreat.A
open Go.Ab
@[simp] theorem e_within02(n lo hi:Int)(lab s):den T 78 [i64 n,i64 lo,i64 hi] lab s=some (.bool (wiB n lo hi),s):=by
 rw[den_fn t78 _ _ _ rfl]
 simp[b78]
@[simp] theorem e_within05(n lo hi:Int)(lab s):den T 35 [i64 n,i64 lo,i64 hi] lab s=some (.bool (wiB n lo hi),s):=by
 rw[den_fn t35 _ _ _ rfl]
 simp[b35]
@[simp] theorem e_within13(n lo hi:Int)(lab s):den T 51 [i64 n,i64 lo,i64 hi] lab s=some (.bool (wiB n lo hi),s):=by
 rw[den_fn t51 _ _ _ rfl]
 simp[b51]
def spanOk(s:Sp)(most:Int):Bool:=wiB s.hi 0 most&&wiB s.lo 0 s.hi
@[simp] theorem e_isSpan02(x0:Int)(x1:Int)(m:Int)(lab s):den T 77 [.agg [i64 x0,i64 x1],i64 m] lab s=some (.bool (spanOk (⟨x0,x1⟩:Sp) m),s):=by
 rw[den_fn t77 _ _ _ rfl]
 simp only[b77]
 cases h:wiB x1 0 m<;>simp[h,spanOk]
@[simp] theorem e_isSpan05(x0:Int)(x1:Int)(m:Int)(lab s):den T 34 [.agg [i64 x0,i64 x1],i64 m] lab s=some (.bool (spanOk (⟨x0,x1⟩:Sp) m),s):=by
 rw[den_fn t34 _ _ _ rfl]
 simp only[b34]
 cases h:wiB x1 0 m<;>simp[h,spanOk]
@[simp] theorem e_isSpan13(x0:Int)(x1:Int)(m:Int)(lab s):den T 53 [.agg [i64 x0,i64 x1],i64 m] lab s=some (.bool (spanOk (⟨x0,x1⟩:Sp) m),s):=by
 rw[den_fn t53 _ _ _ rfl]
 simp only[b53]
 cases h:wiB x1 0 m<;>simp[h,spanOk]
def ancOk(g:Int)(a:Anc):Bool:=wiB a.weight 0 20&&wiB a.bottom 0 (g-1)
def walOk(w:Wal):Bool:=wiB w.sail 0 9&&wiB w.drag 0 9&&wiB w.lean 0 9&&wiB w.corks 0 99&&wiB w.stones 0 99
def netOk(n:Net):Bool:=spanOk n.wind 20&&spanOk n.cur 20&&decide (n.grips.length≤3)&&decide (n.anch.length≤6)&&decide ((n.walls.length:Int)=max 0 ((n.anch.length:Int)-1))&&allB (spanOk · 9) n.grips&&allB (ancOk n.grips.length) n.anch&&allB walOk n.walls
theorem e_Check02_l0(n0:Int)(n1:Int)(n2:Int)(n3:Int)(n4:List Sp)(n5:List Anc)(n6:List Wal)(s:Stk)(hl:n4.length<4611686018427387904):
 Run T b50l0 [(1, .ptr s.length 16 0),(3,i64 0)] ([(16, .cell [i64 n0,i64 n1,i64 n2,i64 n3, .sl .no 2 (es cSp n4), .sl .no 2 (es cAnc n5), .sl .no 5 (es cWal n6)])]::s)=if allB (spanOk · 9) n4=true then some (.exit 0,[(1, .ptr s.length 16 0),(3,i64 n4.length),(44, .bool false)],([(16, .cell [i64 n0,i64 n1,i64 n2,i64 n3, .sl .no 2 (es cSp n4), .sl .no 2 (es cAnc n5), .sl .no 5 (es cWal n6)])]::s))else some (.ret,[(2,i64 20)],([(16, .cell [i64 n0,i64 n1,i64 n2,i64 n3, .sl .no 2 (es cSp n4), .sl .no 2 (es cAnc n5), .sl .no 5 (es cWal n6)])]::s)):=by
 refine loop_all n4 (spanOk · 9) (fun k=>[(1, .ptr s.length 16 0),(3,i64 k)]) (fun _=>([(16, .cell [i64 n0,i64 n1,i64 n2,i64 n3, .sl .no 2 (es cSp n4), .sl .no 2 (es cAnc n5), .sl .no 5 (es cWal n6)])]::s)) _ _ (by simp) (by simp) ?_ (by simp) _ _ (by simp) (by simp)
 intro k hk
 cases h:(spanOk · 9) n4[k]<;>(try simp at h)<;>simp (disch:=first|omega|assumption|decide +kernel|(simp;done)|(simp;omega)|fail) [hk,h,wk k (by omega)]
theorem e_Check02_l1(n0:Int)(n1:Int)(n2:Int)(n3:Int)(n4:List Sp)(n5:List Anc)(n6:List Wal)(s:Stk)(hl:n5.length<4611686018427387904)(h4:n4.length≤3):
 Run T b50l1 [(1, .ptr s.length 16 0),(4,i64 0)] ([(16, .cell [i64 n0,i64 n1,i64 n2,i64 n3, .sl .no 2 (es cSp n4), .sl .no 2 (es cAnc n5), .sl .no 5 (es cWal n6)])]::s)=if allB (ancOk n4.length) n5=true then some (.exit 2,[(1, .ptr s.length 16 0),(4,i64 n5.length),(58, .bool false)],([(16, .cell [i64 n0,i64 n1,i64 n2,i64 n3, .sl .no 2 (es cSp n4), .sl .no 2 (es cAnc n5), .sl .no 5 (es cWal n6)])]::s))else some (.ret,[(2,i64 20)],([(16, .cell [i64 n0,i64 n1,i64 n2,i64 n3, .sl .no 2 (es cSp n4), .sl .no 2 (es cAnc n5), .sl .no 5 (es cWal n6)])]::s)):=by
 refine loop_all n5 (ancOk n4.length) (fun k=>[(1, .ptr s.length 16 0),(4,i64 k)]) (fun _=>([(16, .cell [i64 n0,i64 n1,i64 n2,i64 n3, .sl .no 2 (es cSp n4), .sl .no 2 (es cAnc n5), .sl .no 5 (es cWal n6)])]::s)) _ _ (by simp) (by simp) ?_ (by simp) _ _ (by simp) (by simp)
 intro k hk
 cases h0:wiB (n5[k]).weight 0 20
 ·simp (disch:=first|omega|assumption|decide +kernel|(simp;done)|(simp;omega)|fail) [hk,h0,wk k (by omega),wi,ancOk]
 cases h1:wiB (n5[k]).bottom 0 (n4.length-1)
 ·simp (disch:=first|omega|assumption|decide +kernel|(simp;done)|(simp;omega)|fail) [hk,h0,h1,wk k (by omega),wi,ancOk]
 simp (disch:=first|omega|assumption|decide +kernel|(simp;done)|(simp;omega)|fail) [hk,h0,h1,wk k (by omega),wi,ancOk]
theorem e_Check02_l2(n0:Int)(n1:Int)(n2:Int)(n3:Int)(n4:List Sp)(n5:List Anc)(n6:List Wal)(s:Stk)(hl:n6.length<4611686018427387904):
 ∃g:Ab.Loc,Run T b50l2 [(1, .ptr s.length 16 0),(5,i64 0)] ([(16, .cell [i64 n0,i64 n1,i64 n2,i64 n3, .sl .no 2 (es cSp n4), .sl .no 2 (es cAnc n5), .sl .no 5 (es cWal n6)])]::s)=if allB walOk n6=true then some (.exit 4,[(1, .ptr s.length 16 0),(5,i64 n6.length),(87, .bool false)],([(16, .cell [i64 n0,i64 n1,i64 n2,i64 n3, .sl .no 2 (es cSp n4), .sl .no 2 (es cAnc n5), .sl .no 5 (es cWal n6)])]::s))else some (.ret,[(2,i64 20)],(g::s)):=by
 refine loop_all_g n6 walOk (fun k=>[(1, .ptr s.length 16 0),(5,i64 k)]) (fun _=>([(16, .cell [i64 n0,i64 n1,i64 n2,i64 n3, .sl .no 2 (es cSp n4), .sl .no 2 (es cAnc n5), .sl .no 5 (es cWal n6)])]::s)) (fun g=>(.ret,[(2,i64 20)],(g::s))) _ (by simp) (by simp) ?_ (by simp) _ _ (by simp) (by simp)
 intro k hk
 cases h0:wiB (n6[k]).sail 0 9
 ·refine⟨[(16, .cell [i64 n0,i64 n1,i64 n2,i64 n3, .sl .no 2 (es cSp n4), .sl .no 2 (es cAnc n5), .sl .no 5 (es cWal n6)]),(96, .cell (cWal n6[k]))],?_⟩
  simp (disch:=first|omega|assumption|decide +kernel|(simp;done)|(simp;omega)|fail) [hk,h0,wk k (by omega),walOk]
 cases h1:wiB (n6[k]).drag 0 9
 ·refine⟨[(16, .cell [i64 n0,i64 n1,i64 n2,i64 n3, .sl .no 2 (es cSp n4), .sl .no 2 (es cAnc n5), .sl .no 5 (es cWal n6)]),(96, .cell (cWal n6[k]))],?_⟩
  simp (disch:=first|omega|assumption|decide +kernel|(simp;done)|(simp;omega)|fail) [hk,h0,h1,wk k (by omega),walOk]
 cases h2:wiB (n6[k]).lean 0 9
 ·refine⟨[(16, .cell [i64 n0,i64 n1,i64 n2,i64 n3, .sl .no 2 (es cSp n4), .sl .no 2 (es cAnc n5), .sl .no 5 (es cWal n6)]),(96, .cell (cWal n6[k]))],?_⟩
  simp (disch:=first|omega|assumption|decide +kernel|(simp;done)|(simp;omega)|fail) [hk,h0,h1,h2,wk k (by omega),walOk]
 cases h3:wiB (n6[k]).corks 0 99
 ·refine⟨[(16, .cell [i64 n0,i64 n1,i64 n2,i64 n3, .sl .no 2 (es cSp n4), .sl .no 2 (es cAnc n5), .sl .no 5 (es cWal n6)]),(96, .cell (cWal n6[k]))],?_⟩
  simp (disch:=first|omega|assumption|decide +kernel|(simp;done)|(simp;omega)|fail) [hk,h0,h1,h2,h3,wk k (by omega),walOk]
 cases h4:wiB (n6[k]).stones 0 99
 ·refine⟨[(16, .cell [i64 n0,i64 n1,i64 n2,i64 n3, .sl .no 2 (es cSp n4), .sl .no 2 (es cAnc n5), .sl .no 5 (es cWal n6)]),(96, .cell (cWal n6[k]))],?_⟩
  simp (disch:=first|omega|assumption|decide +kernel|(simp;done)|(simp;omega)|fail) [hk,h0,h1,h2,h3,h4,wk k (by omega),walOk]
 refine⟨[],?_⟩
 simp (disch:=first|omega|assumption|decide +kernel|(simp;done)|(simp;omega)|fail) [hk,h0,h1,h2,h3,h4,wk k (by omega),walOk]
@[simp] theorem e_Check02(n0:Int)(n1:Int)(n2:Int)(n3:Int)(n4:List Sp)(n5:List Anc)(n6:List Wal)(lab s):den T 50 [.agg [i64 n0,i64 n1,i64 n2,i64 n3, .sl .no 2 (es cSp n4), .sl .no 2 (es cAnc n5), .sl .no 5 (es cWal n6)]] lab s=some (i64 (if netOk (⟨⟨n0,n1⟩,⟨n2,n3⟩,n4,n5,n6⟩:Net)=true then 0 else 20),s):=by
 rw[den_fn t50 _ _ _ rfl]
 simp only[b50]
 obtain⟨g,hg⟩: ∃g:Ab.Loc,n6.length<4611686018427387904→_:=Classical.byCases (fun h:n6.length<4611686018427387904=>(e_Check02_l2 n0 n1 n2 n3 n4 n5 n6 s h).imp fun _ h _=>h) (fun h=>⟨[],fun h'=>absurd h' h⟩)
 cases c0:spanOk ⟨n0,n1⟩ 20
 ·simp (disch:=first|omega|assumption|decide +kernel|(simp;done)|(simp;omega)|fail) [c0,netOk,wi,e_Check02_l0,e_Check02_l1,hg]
 cases c1:spanOk ⟨n2,n3⟩ 20
 ·simp (disch:=first|omega|assumption|decide +kernel|(simp;done)|(simp;omega)|fail) [c0,c1,netOk,wi,e_Check02_l0,e_Check02_l1,hg]
 by_cases c2:(3:Int)<n4.length
 ·have c2n:=c2
  try simp at c2n
  simp (disch:=first|omega|assumption|decide +kernel|(simp;done)|(simp;omega)|fail) [c0,c1,c2,c2n,netOk,wi,e_Check02_l0,e_Check02_l1,hg]<;>omega
 have c2n:=c2
 try simp at c2n
 by_cases c3:(6:Int)<n5.length
 ·have c3n:=c3
  try simp at c3n
  simp (disch:=first|omega|assumption|decide +kernel|(simp;done)|(simp;omega)|fail) [c0,c1,c2,c2n,c3,c3n,netOk,wi,e_Check02_l0,e_Check02_l1,hg]<;>omega
 have c3n:=c3
 try simp at c3n
 by_cases c4:(n6.length:Int)=max 0 ((n5.length:Int)-1)
 rotate_left
 ·have c4n:=c4
  try simp at c4n
  simp (disch:=first|omega|assumption|decide +kernel|(simp;done)|(simp;omega)|fail) [c0,c1,c2,c2n,c3,c3n,c4,c4n,netOk,wi,e_Check02_l0,e_Check02_l1,hg]
 have c4n:=c4
 try simp at c4n
 cases c5:allB (spanOk · 9) n4
 ·simp (disch:=first|omega|assumption|decide +kernel|(simp;done)|(simp;omega)|fail) [c0,c1,c2,c2n,c3,c3n,c4,c4n,c5,netOk,wi,e_Check02_l0,e_Check02_l1,hg]
 cases c6:allB (ancOk n4.length) n5
 ·simp (disch:=first|omega|assumption|decide +kernel|(simp;done)|(simp;omega)|fail) [c0,c1,c2,c2n,c3,c3n,c4,c4n,c5,c6,netOk,wi,e_Check02_l0,e_Check02_l1,hg]
 cases c7:allB walOk n6
 ·simp (disch:=first|omega|assumption|decide +kernel|(simp;done)|(simp;omega)|fail) [c0,c1,c2,c2n,c3,c3n,c4,c4n,c5,c6,c7,netOk,wi,e_Check02_l0,e_Check02_l1,hg]
 simp (disch:=first|omega|assumption|decide +kernel|(simp;done)|(simp;omega)|fail) [c0,c1,c2,c2n,c3,c3n,c4,c4n,c5,c6,c7,netOk,wi,e_Check02_l0,e_Check02_l1,hg]
 omega
end Go.Proofs.YtoedpegjoccnlaaGreat.A

/-
  The references' Check of layers 5 and 13, and what the statements call far.
-/
namespace Go.Proofs.YtoedpegjoccnlaaGreat.A
open Go.Ab
def lowSum(l:List Sp):Int:=(l.map (·.lo)).sum
def highSum(l:List Sp):Int:=(l.map (·.hi)).sum
def boatOk(b:Boat):Bool:=wiB b.carry 0 999&&wiB b.pence 0 99
def seaOk(s:Sea):Bool:=spanOk s.weight 2000&&decide ((s.places.length:Int)≤4)&&decide ((s.boats.length:Int)≤6)&&allB (spanOk · 12) s.places&&allB boatOk s.boats&&decide (lowSum s.places≤12)&&decide (12≤highSum s.places)
def sums(p:Sp→Bool):List Sp→Int×Int→Option (Int×Int)
 |[],a=>some a
 |x::r,a=>if p x=true then sums p r (a.1+x.lo,a.2+x.hi)else none
theorem sums_eq(p:Sp→Bool)(l:List Sp)(a:Int×Int):sums p l a=if allB p l=true then some (a.1+lowSum l,a.2+highSum l)else none:=by
 induction l generalizing a with
 |nil=>simp[sums,lowSum,highSum,allB]
 |cons x r ih=>
   by_cases h:p x=true
   ·simp only[sums,h,if_true,ih,allB,List.all_cons,Bool.true_and,lowSum,highSum,List.map_cons,List.sum_cons]
    split<;>simp_all [Int.add_assoc]
   ·simp[sums,h,allB]
theorem foldS_sums(p:Sp→Bool)(q:Ex×Env×Stk)(fin:Int×Int→Ex×Env×Stk)(l:List Sp)(a:Int×Int):
 foldS (fun a x=>if p x=true then .inl (a.1+x.lo,a.2+x.hi)else .inr q) fin l a=(match sums p l a with|some b=>fin b|none=>q):=by
 induction l generalizing a with
 |nil=>rfl
 |cons x r ih=>
   by_cases h:p x=true
   ·simp only[foldS,sums,h,if_true,ih]
   ·simp only[foldS,sums,h,Bool.false_eq_true,if_false]
theorem within_iff {n lo hi:Int}:wiB n lo hi=true↔lo≤n∧n≤hi:=by simp[wiB]
theorem spanOk_iff {x:Sp} {m:Int}:spanOk x m=true↔0≤x.lo∧x.lo≤x.hi∧x.hi≤m:=by
 simp only[spanOk,Bool.and_eq_true,within_iff];omega
theorem e_Check05_l0(n0:Int)(n1:Int)(n2:List Sp)(n3:List Boat)(s:Stk)(hl:n2.length≤4):
 Run T b8l0 [(1, .ptr s.length 16 0),(3,i64 0),(4,i64 0),(5,i64 0)] ([(16, .cell [i64 n0,i64 n1, .sl .no 2 (es cSp n2), .sl .no 2 (es cBoat n3)])]::s)=
  if allB (spanOk · 12) n2=true then some (.exit 0,[(1, .ptr s.length 16 0),(3,i64 (lowSum n2)),(4,i64 (highSum n2)),(5,i64 n2.length),(28, .bool false)],[(16, .cell [i64 n0,i64 n1, .sl .no 2 (es cSp n2), .sl .no 2 (es cBoat n3)])]::s)
  else some (.ret,[(2,i64 50)],[(16, .cell [i64 n0,i64 n1, .sl .no 2 (es cSp n2), .sl .no 2 (es cBoat n3)])]::s):=by
 have h:Run T b8l0 [(1, .ptr s.length 16 0),(3,i64 0),(4,i64 0),(5,i64 0)] ([(16, .cell [i64 n0,i64 n1, .sl .no 2 (es cSp n2), .sl .no 2 (es cBoat n3)])]::s)=some (foldS (fun(a:Int×Int) x=>if spanOk x 12=true then .inl (a.1+x.lo,a.2+x.hi)else .inr (.ret,[(2,i64 50)],[(16, .cell [i64 n0,i64 n1, .sl .no 2 (es cSp n2), .sl .no 2 (es cBoat n3)])]::s)) (fun a=>(.exit 0,[(1, .ptr s.length 16 0),(3,i64 a.1),(4,i64 a.2),(5,i64 n2.length),(28, .bool false)],[(16, .cell [i64 n0,i64 n1, .sl .no 2 (es cSp n2), .sl .no 2 (es cBoat n3)])]::s)) n2 (0,0)):=by
  refine loop_list n2 (fun k (a:Int×Int)=>0≤a.1∧a.1≤12*k∧0≤a.2∧a.2≤12*k) (fun k a=>[(1, .ptr s.length 16 0),(3,i64 a.1),(4,i64 a.2),(5,i64 k)]) (fun _ _=>[(16, .cell [i64 n0,i64 n1, .sl .no 2 (es cSp n2), .sl .no 2 (es cBoat n3)])]::s) _ _ ?_ ?_ ?_ ?_ ?_ (0,0) ?_ _ _ (by simp) (by simp)
  ·intro k a hk hi
   cases h:spanOk n2[k] 12
   ·simp (disch:=first|omega|assumption|decide +kernel|(simp;done)|(simp;omega)|fail) [hk,h]
   ·obtain⟨h1,h2,h3⟩:=spanOk_iff.1 h
    simp (disch:=first|omega|assumption|decide +kernel|(simp;done)|(simp;omega)|fail) [hk,h,wk k (by omega),wi]
  ·intro k a a' hk hi h
   split at h
   ·rename_i h0
    obtain⟨h1,h2,h3⟩:=spanOk_iff.1 h0
    cases h
    simp only;omega
   ·cases h
  ·intro k a q hk hi h
   split at h
   ·cases h
   ·cases h;simp
  ·intro a hi;simp
  ·intro a;simp
  ·simp
 rw[h,foldS_sums,sums_eq]
 cases allB (spanOk · 12) n2<;>simp
theorem e_Check05_l1(n0:Int)(n1:Int)(n2:List Sp)(n3:List Boat)(x y:Int)(s:Stk)(hl:n3.length<4611686018427387904):
 ∃g:Ab.Loc,Run T b8l1 [(1, .ptr s.length 16 0),(3,i64 x),(4,i64 y),(6,i64 0)] ([(16, .cell [i64 n0,i64 n1, .sl .no 2 (es cSp n2), .sl .no 2 (es cBoat n3)])]::s)=if allB boatOk n3=true then some (.exit 2,[(1, .ptr s.length 16 0),(3,i64 x),(4,i64 y),(6,i64 n3.length),(58, .bool false)],([(16, .cell [i64 n0,i64 n1, .sl .no 2 (es cSp n2), .sl .no 2 (es cBoat n3)])]::s))else some (.ret,[(2,i64 50)],(g::s)):=by
 refine loop_all_g n3 boatOk (fun k=>[(1, .ptr s.length 16 0),(3,i64 x),(4,i64 y),(6,i64 k)]) (fun _=>([(16, .cell [i64 n0,i64 n1, .sl .no 2 (es cSp n2), .sl .no 2 (es cBoat n3)])]::s)) (fun g=>(.ret,[(2,i64 50)],(g::s))) _ (by simp) (by simp) ?_ (by simp) _ _ (by simp) (by simp)
 intro k hk
 cases h0:wiB (n3[k]).carry 0 999
 ·refine⟨[(16, .cell [i64 n0,i64 n1, .sl .no 2 (es cSp n2), .sl .no 2 (es cBoat n3)]),(112, .cell (cBoat n3[k]))],?_⟩
  simp (disch:=first|omega|assumption|decide +kernel|(simp;done)|(simp;omega)|fail) [hk,h0,wk k (by omega),boatOk]
 cases h1:wiB (n3[k]).pence 0 99
 ·refine⟨[(16, .cell [i64 n0,i64 n1, .sl .no 2 (es cSp n2), .sl .no 2 (es cBoat n3)]),(112, .cell (cBoat n3[k]))],?_⟩
  simp (disch:=first|omega|assumption|decide +kernel|(simp;done)|(simp;omega)|fail) [hk,h0,h1,wk k (by omega),boatOk]
 refine⟨[],?_⟩
 simp (disch:=first|omega|assumption|decide +kernel|(simp;done)|(simp;omega)|fail) [hk,h0,h1,wk k (by omega),boatOk]
@[simp] theorem e_Check05(n0:Int)(n1:Int)(n2:List Sp)(n3:List Boat)(lab s):den T 8 [.agg [i64 n0,i64 n1, .sl .no 2 (es cSp n2), .sl .no 2 (es cBoat n3)]] lab s=some (i64 (if seaOk (⟨⟨n0,n1⟩,n2,n3⟩:Sea)=true then 0 else 50),s):=by
 rw[den_fn t8 _ _ _ rfl]
 simp only[b8]
 obtain⟨g,hg⟩: ∃g:Ab.Loc,n3.length<4611686018427387904→_:=Classical.byCases (fun h:n3.length<4611686018427387904=>(e_Check05_l1 n0 n1 n2 n3 (lowSum n2) (highSum n2) s h).imp fun _ h _=>h) (fun h=>⟨[],fun h'=>absurd h' h⟩)
 cases c0:spanOk ⟨n0,n1⟩ 2000
 ·simp (disch:=first|omega|assumption|decide +kernel|(simp;done)|(simp;omega)|fail) [c0,seaOk,e_Check05_l0,hg]
 by_cases c1:(4:Int)<n2.length
 ·have c1n:=c1
  try simp at c1n
  simp (disch:=first|omega|assumption|decide +kernel|(simp;done)|(simp;omega)|fail) [c0,c1,c1n,seaOk,e_Check05_l0,hg]<;>omega
 have c1n:=c1
 try simp at c1n
 by_cases c2:(6:Int)<n3.length
 ·have c2n:=c2
  try simp at c2n
  simp (disch:=first|omega|assumption|decide +kernel|(simp;done)|(simp;omega)|fail) [c0,c1,c1n,c2,c2n,seaOk,e_Check05_l0,hg]<;>omega
 have c2n:=c2
 try simp at c2n
 cases c3:allB (spanOk · 12) n2
 ·simp (disch:=first|omega|assumption|decide +kernel|(simp;done)|(simp;omega)|fail) [c0,c1,c1n,c2,c2n,c3,seaOk,e_Check05_l0,hg]
 cases c4:allB boatOk n3
 ·simp (disch:=first|omega|assumption|decide +kernel|(simp;done)|(simp;omega)|fail) [c0,c1,c1n,c2,c2n,c3,c4,seaOk,e_Check05_l0,hg]
 by_cases c5:(12<lowSum n2)
 ·have c5n:=c5
  try simp at c5n
  simp (disch:=first|omega|assumption|decide +kernel|(simp;done)|(simp;omega)|fail) [c0,c1,c1n,c2,c2n,c3,c4,c5,c5n,seaOk,e_Check05_l0,hg]<;>omega
 have c5n:=c5
 try simp at c5n
 by_cases c6:(highSum n2<12)
 ·have c6n:=c6
  try simp at c6n
  simp (disch:=first|omega|assumption|decide +kernel|(simp;done)|(simp;omega)|fail) [c0,c1,c1n,c2,c2n,c3,c4,c5,c5n,c6,c6n,seaOk,e_Check05_l0,hg]<;>omega
 have c6n:=c6
 try simp at c6n
 simp (disch:=first|omega|assumption|decide +kernel|(simp;done)|(simp;omega)|fail) [c0,c1,c1n,c2,c2n,c3,c4,c5,c5n,c6,c6n,seaOk,e_Check05_l0,hg]
theorem e_Rising_l0(l:List Int)(lo hi:Int)(s:Stk)(hl:l.length<4611686018427387904):
 Run T b33l0 [(0, .sl .no 1 (es cInt l)),(1,i64 lo),(2,i64 hi),(7,i64 0)] ([]::s)=
  if rising l lo hi=true then some (.exit 0,[(0, .sl .no 1 (es cInt l)),(1,i64 lo),(2,i64 hi),(7,i64 l.length),(11, .bool false)],[]::s)
  else some (.ret,[(6, .bool false)],[]::s):=by
 refine loop_all (List.range l.length) (risingAt l lo hi) (fun k=>[(0, .sl .no 1 (es cInt l)),(1,i64 lo),(2,i64 hi),(7,i64 k)]) (fun _=>[]::s) _ _ (by simp) (by simp) ?_ (by simp) _ _ (by simp) (by simp)
 intro k hk
 simp only[List.length_range]at hk
 simp only[List.getElem_range]
 have hg:l.getD k 0=l[k]:=by simp[List.getD,hk]
 cases h0:wiB l[k] lo hi
 ·simp (disch:=first|omega|assumption|decide +kernel|(simp;done)|(simp;omega)|fail) [hk,h0,risingAt]
 by_cases h1:k=0
 ·subst h1
  simp (disch:=first|omega|assumption|decide +kernel|(simp;done)|(simp;omega)|fail) [hk,h0,risingAt,wi]
 have hk1:k-1<l.length:=by omega
 have h1p:0<k:=by omega
 have h1q:(1:Int)≤k:=by omega
 have hg1:l.getD (k-1) 0=l[k-1]:=by simp[List.getD,hk1]
 have hn:((k:Int)-1).toNat=k-1:=by omega
 by_cases h2:l[k-1]<l[k]
 ·have h3: ¬l[k]≤l[k-1]:=by omega
  simp (disch:=first|omega|assumption|decide +kernel|(simp;done)|(simp;omega)|fail) [hk,hk1,h0,h1,h1p,h1q,h2,h3,hn,risingAt,wi]
 ·have h3:l[k]≤l[k-1]:=by omega
  simp (disch:=first|omega|assumption|decide +kernel|(simp;done)|(simp;omega)|fail) [hk,hk1,h0,h1,h1p,h1q,h2,h3,hn,risingAt,wi]
@[simp] theorem e_Rising(l:List Int)(lo hi:Int)(hl:l.length<4611686018427387904)(lab s):
 den T 33 [.sl .no 1 (es cInt l),i64 lo,i64 hi] lab s=some (.bool (rising l lo hi),s):=by
 rw[den_fn t33 _ _ _ rfl]
 simp only[b33]
 cases h:rising l lo hi<;>simp[e_Rising_l0,hl,h]
def areSkies(n:Int)(l:List Int):Bool:=decide (0<(l.length:Int))&&rising l 0 (n-1)
@[simp] theorem e_areSkies(n0:Int)(n1:Int)(n2:Int)(n3:Int)(n4:List Sp)(n5:List Anc)(n6:List Wal)(n7:Int)(n8:Int)(n9:List Sp)(n10:List Boat)(n11:List Sky)(n12:List (List Int))(n13:List Int)(n14:List Sp)(l:List Int)(hl:l.length<4611686018427387904)(hn:n11.length<4611686018427387904)(lab s):
 den T 52 [.agg [i64 n0,i64 n1,i64 n2,i64 n3, .sl .no 2 (es cSp n4), .sl .no 2 (es cAnc n5), .sl .no 5 (es cWal n6),i64 n7,i64 n8, .sl .no 2 (es cSp n9), .sl .no 2 (es cBoat n10), .sl .no 4 (es cSky n11), .sl .no 1 (es cInts n12), .sl .no 1 (es cInt n13), .sl .no 2 (es cSp n14)], .sl .no 1 (es cInt l)] lab s=some (.bool (areSkies n11.length l),s):=by
 rw[den_fn t52 _ _ _ rfl]
 simp only[b52]
 by_cases c0:(0:Int)<l.length
 rotate_left
 ·have c0n:=c0
  try simp at c0n
  simp (disch:=first|omega|assumption|decide +kernel|(simp;done)|(simp;omega)|fail) [c0,c0n,areSkies,wi]<;>omega
 have c0n:=c0
 try simp at c0n
 cases c1:rising l 0 (n11.length-1)
 ·simp (disch:=first|omega|assumption|decide +kernel|(simp;done)|(simp;omega)|fail) [c0,c0n,c1,areSkies,wi]
 simp (disch:=first|omega|assumption|decide +kernel|(simp;done)|(simp;omega)|fail) [c0,c0n,c1,areSkies,wi]
end Go.Proofs.YtoedpegjoccnlaaGreat.A

/-
  Copies; what the statements call far; ready.
-/
namespace Go.Proofs.YtoedpegjoccnlaaGreat.A
open Go.Ab
@[simp] theorem e_Copy02(n0:Int)(n1:Int)(n2:Int)(n3:Int)(n4:List Sp)(n5:List Anc)(n6:List Wal)(h4:n4.length<8796093022208)(h5:n5.length<8796093022208)(h6:n6.length<3518437208884)(lab)(loc:Ab.Loc)(s:Stk)
 (k0:loc.get lab=none) (k1:loc.get (lab+1000)=none) (k2:loc.get (lab+2000)=none):
 den T 58 [.agg [i64 n0,i64 n1,i64 n2,i64 n3, .sl .no 2 (es cSp n4), .sl .no 2 (es cAnc n5), .sl .no 5 (es cWal n6)]] lab (loc::s)=some (.agg [i64 n0,i64 n1,i64 n2,i64 n3, .asl s.length lab 2 n4.length 0 n4.length, .asl s.length (lab+1000) 2 n5.length 0 n5.length, .asl s.length (lab+2000) 5 n6.length 0 n6.length],
  ((loc.put lab (.arr 2 (es cSp n4))).put (lab+1000) (.arr 2 (es cAnc n5))).put (lab+2000) (.arr 5 (es cWal n6))::s):=by
 rw[den_fn t58 _ _ _ rfl]
 simp only[b58]
 simp (disch:=first|omega|assumption|decide +kernel|(simp;done)|(simp;omega)|fail) [appmK_es,k0,k1,k2]
@[simp] theorem e_Copy05(n0:Int)(n1:Int)(n2:List Sp)(n3:List Boat)(h4:n2.length<8796093022208)(h5:n3.length<8796093022208)(lab)(loc:Ab.Loc)(s:Stk)
 (k0:loc.get lab=none) (k1:loc.get (lab+1000)=none):
 den T 42 [.agg [i64 n0,i64 n1, .sl .no 2 (es cSp n2), .sl .no 2 (es cBoat n3)]] lab (loc::s)=some (.agg [i64 n0,i64 n1, .asl s.length lab 2 n2.length 0 n2.length, .asl s.length (lab+1000) 2 n3.length 0 n3.length],
  (loc.put lab (.arr 2 (es cSp n2))).put (lab+1000) (.arr 2 (es cBoat n3))::s):=by
 rw[den_fn t42 _ _ _ rfl]
 simp only[b42]
 simp (disch:=first|omega|assumption|decide +kernel|(simp;done)|(simp;omega)|fail) [appmD_es,run_drawnK,k0,k1]
set_option maxHeartbeats 4000000 in
@[simp] theorem e_NetOf(n0:Int)(n1:Int)(n2:Int)(n3:Int)(n4:List Sp)(n5:List Anc)(n6:List Wal)(n7:Int)(n8:Int)(n9:List Sp)(n10:List Boat)(n11:List Sky)(n12:List (List Int))(n13:List Int)(n14:List Sp)(h4:n4.length<8796093022208)(h5:n5.length<8796093022208)(h6:n6.length<3518437208884)(k:Nat)(hk:k<n11.length)(lab s):
 den T 49 [.agg [i64 n0,i64 n1,i64 n2,i64 n3, .sl .no 2 (es cSp n4), .sl .no 2 (es cAnc n5), .sl .no 5 (es cWal n6),i64 n7,i64 n8, .sl .no 2 (es cSp n9), .sl .no 2 (es cBoat n10), .sl .no 4 (es cSky n11), .sl .no 1 (es cInts n12), .sl .no 1 (es cInt n13), .sl .no 2 (es cSp n14)],i64 k] lab s=some (.agg [i64 n11[k].wind.lo,i64 n11[k].wind.hi,i64 n11[k].cur.lo,i64 n11[k].cur.hi, .sl .no 2 (es cSp n4), .sl .no 2 (es cAnc n5), .sl .no 5 (es cWal n6)],s):=by
 rw[den_fn t49 _ _ _ rfl]
 simp only[b49]
 simp (maxSteps:=1000000) (disch:=first|omega|assumption|decide +kernel|(simp;done)|(simp;omega)|fail) [run_drawnK,hk]
def hugeNet(n:Net):Bool:=decide (40<(n.grips.length:Int))||decide (40<(n.anch.length:Int))||decide (40<(n.walls.length:Int))
@[simp] theorem e_Huge02(n0:Int)(n1:Int)(n2:Int)(n3:Int)(n4:List Sp)(n5:List Anc)(n6:List Wal)(x y:V)(L:List (List V))(hL:L.length≤40)(lab s):den T 76 [.agg [i64 n0,i64 n1,i64 n2,i64 n3, .sl .no 2 (es cSp n4), .sl .no 2 (es cAnc n5), .sl .no 5 (es cWal n6)], .agg [x,y, .sl .no 1 L]] lab s=some (.bool (hugeNet (⟨⟨n0,n1⟩,⟨n2,n3⟩,n4,n5,n6⟩:Net)),s):=by
 rw[den_fn t76 _ _ _ rfl]
 simp only[b76]
 by_cases c0:(40:Int)<n4.length
 ·have c0n:=c0
  try simp at c0n
  simp (disch:=first|omega|assumption|decide +kernel|(simp;done)|(simp;omega)|fail) [c0,c0n,hugeNet]
 have c0n:=c0
 try simp at c0n
 by_cases c1:(40:Int)<n5.length
 ·have c1n:=c1
  try simp at c1n
  simp (disch:=first|omega|assumption|decide +kernel|(simp;done)|(simp;omega)|fail) [c0,c0n,c1,c1n,hugeNet]
 have c1n:=c1
 try simp at c1n
 by_cases c2:(40:Int)<n6.length
 ·have c2n:=c2
  try simp at c2n
  simp (disch:=first|omega|assumption|decide +kernel|(simp;done)|(simp;omega)|fail) [c0,c0n,c1,c1n,c2,c2n,hugeNet]
 have c2n:=c2
 try simp at c2n
 by_cases c3:(40:Int)<L.length
 ·have c3n:=c3
  try simp at c3n
  simp (disch:=first|omega|assumption|decide +kernel|(simp;done)|(simp;omega)|fail) [c0,c0n,c1,c1n,c2,c2n,c3,c3n,hugeNet]<;>omega
 have c3n:=c3
 try simp at c3n
 simp (disch:=first|omega|assumption|decide +kernel|(simp;done)|(simp;omega)|fail) [c0,c0n,c1,c1n,c2,c2n,c3,c3n,hugeNet]
def farSea(n:Sea):Bool:=decide (40<(n.places.length:Int))||decide (40<(n.boats.length:Int))
@[simp] theorem e_Far05(n0:Int)(n1:Int)(n2:List Sp)(n3:List Boat)(lab s):den T 7 [.agg [i64 n0,i64 n1, .sl .no 2 (es cSp n2), .sl .no 2 (es cBoat n3)]] lab s=some (.bool (farSea (⟨⟨n0,n1⟩,n2,n3⟩:Sea)),s):=by
 rw[den_fn t7 _ _ _ rfl]
 simp only[b7]
 by_cases c0:(40:Int)<n2.length
 ·have c0n:=c0
  try simp at c0n
  simp (disch:=first|omega|assumption|decide +kernel|(simp;done)|(simp;omega)|fail) [c0,c0n,farSea]
 have c0n:=c0
 try simp at c0n
 by_cases c1:(40:Int)<n3.length
 ·have c1n:=c1
  try simp at c1n
  simp (disch:=first|omega|assumption|decide +kernel|(simp;done)|(simp;omega)|fail) [c0,c0n,c1,c1n,farSea]
 have c1n:=c1
 try simp at c1n
 simp (disch:=first|omega|assumption|decide +kernel|(simp;done)|(simp;omega)|fail) [c0,c0n,c1,c1n,farSea]
def longList(l:List Int):Bool:=decide (40<(l.length:Int))
def hugeSeason(n:Season):Bool:=hugeNet n.net||farSea n.sea||decide (40<(n.skies.length:Int))||decide (40<(n.follows.length:Int))||decide (40<(n.first.length:Int))||decide (40<(n.days.length:Int))||anyB longList n.follows
theorem e_Huge13_l0(n0:Int)(n1:Int)(n2:Int)(n3:Int)(n4:List Sp)(n5:List Anc)(n6:List Wal)(n7:Int)(n8:Int)(n9:List Sp)(n10:List Boat)(n11:List Sky)(n12:List (List Int))(n13:List Int)(n14:List Sp)(s:Stk)(hl:n12.length<4611686018427387904):
 Run T b47l0 [(1, .ptr s.length 16 0),(3,i64 0)] ([(16, .cell [i64 n0,i64 n1,i64 n2,i64 n3, .sl .no 2 (es cSp n4), .sl .no 2 (es cAnc n5), .sl .no 5 (es cWal n6),i64 n7,i64 n8, .sl .no 2 (es cSp n9), .sl .no 2 (es cBoat n10), .sl .no 4 (es cSky n11), .sl .no 1 (es cInts n12), .sl .no 1 (es cInt n13), .sl .no 2 (es cSp n14)])]::s)=if anyB longList n12=true then some (.ret,[(2, .bool true)],([(16, .cell [i64 n0,i64 n1,i64 n2,i64 n3, .sl .no 2 (es cSp n4), .sl .no 2 (es cAnc n5), .sl .no 5 (es cWal n6),i64 n7,i64 n8, .sl .no 2 (es cSp n9), .sl .no 2 (es cBoat n10), .sl .no 4 (es cSky n11), .sl .no 1 (es cInts n12), .sl .no 1 (es cInt n13), .sl .no 2 (es cSp n14)])]::s))else some (.exit 0,[(1, .ptr s.length 16 0),(3,i64 n12.length),(41, .bool false)],([(16, .cell [i64 n0,i64 n1,i64 n2,i64 n3, .sl .no 2 (es cSp n4), .sl .no 2 (es cAnc n5), .sl .no 5 (es cWal n6),i64 n7,i64 n8, .sl .no 2 (es cSp n9), .sl .no 2 (es cBoat n10), .sl .no 4 (es cSky n11), .sl .no 1 (es cInts n12), .sl .no 1 (es cInt n13), .sl .no 2 (es cSp n14)])]::s)):=by
 refine loop_any n12 longList (fun k=>[(1, .ptr s.length 16 0),(3,i64 k)]) (fun _=>([(16, .cell [i64 n0,i64 n1,i64 n2,i64 n3, .sl .no 2 (es cSp n4), .sl .no 2 (es cAnc n5), .sl .no 5 (es cWal n6),i64 n7,i64 n8, .sl .no 2 (es cSp n9), .sl .no 2 (es cBoat n10), .sl .no 4 (es cSky n11), .sl .no 1 (es cInts n12), .sl .no 1 (es cInt n13), .sl .no 2 (es cSp n14)])]::s)) _ _ (by simp) (by simp) ?_ (by simp) _ _ (by simp) (by simp)
 intro k hk
 cases h:longList n12[k]<;>(try simp[longList]at h)<;>simp (disch:=first|omega|assumption|decide +kernel|(simp;done)|(simp;omega)|fail) [hk,h,wk k (by omega),longList]
@[simp] theorem e_Huge13(n0:Int)(n1:Int)(n2:Int)(n3:Int)(n4:List Sp)(n5:List Anc)(n6:List Wal)(n7:Int)(n8:Int)(n9:List Sp)(n10:List Boat)(n11:List Sky)(n12:List (List Int))(n13:List Int)(n14:List Sp)(h12:n12.length<4611686018427387904)(lab s):den T 47 [.agg [i64 n0,i64 n1,i64 n2,i64 n3, .sl .no 2 (es cSp n4), .sl .no 2 (es cAnc n5), .sl .no 5 (es cWal n6),i64 n7,i64 n8, .sl .no 2 (es cSp n9), .sl .no 2 (es cBoat n10), .sl .no 4 (es cSky n11), .sl .no 1 (es cInts n12), .sl .no 1 (es cInt n13), .sl .no 2 (es cSp n14)]] lab s=some (.bool (hugeSeason (⟨⟨⟨n0,n1⟩,⟨n2,n3⟩,n4,n5,n6⟩,⟨⟨n7,n8⟩,n9,n10⟩,n11,n12,n13,n14⟩:Season)),s):=by
 rw[den_fn t47 _ _ _ rfl]
 simp only[b47]
 cases c0:hugeNet ⟨⟨n0,n1⟩,⟨n2,n3⟩,n4,n5,n6⟩
 rotate_left
 ·simp (disch:=first|omega|assumption|decide +kernel|(simp;done)|(simp;omega)|fail) [c0,hugeSeason,e_Huge13_l0]
 cases c1:farSea ⟨⟨n7,n8⟩,n9,n10⟩
 rotate_left
 ·simp (disch:=first|omega|assumption|decide +kernel|(simp;done)|(simp;omega)|fail) [c0,c1,hugeSeason,e_Huge13_l0]
 by_cases c2:(40:Int)<n11.length
 ·have c2n:=c2
  try simp at c2n
  simp (disch:=first|omega|assumption|decide +kernel|(simp;done)|(simp;omega)|fail) [c0,c1,c2,c2n,hugeSeason,e_Huge13_l0]
 have c2n:=c2
 try simp at c2n
 by_cases c3:(40:Int)<n12.length
 ·have c3n:=c3
  try simp at c3n
  simp (disch:=first|omega|assumption|decide +kernel|(simp;done)|(simp;omega)|fail) [c0,c1,c2,c2n,c3,c3n,hugeSeason,e_Huge13_l0]
 have c3n:=c3
 try simp at c3n
 by_cases c4:(40:Int)<n13.length
 ·have c4n:=c4
  try simp at c4n
  simp (disch:=first|omega|assumption|decide +kernel|(simp;done)|(simp;omega)|fail) [c0,c1,c2,c2n,c3,c3n,c4,c4n,hugeSeason,e_Huge13_l0]
 have c4n:=c4
 try simp at c4n
 by_cases c5:(40:Int)<n14.length
 ·have c5n:=c5
  try simp at c5n
  simp (disch:=first|omega|assumption|decide +kernel|(simp;done)|(simp;omega)|fail) [c0,c1,c2,c2n,c3,c3n,c4,c4n,c5,c5n,hugeSeason,e_Huge13_l0]
 have c5n:=c5
 try simp at c5n
 cases c6:anyB longList n12
 rotate_left
 ·simp (disch:=first|omega|assumption|decide +kernel|(simp;done)|(simp;omega)|fail) [c0,c1,c2,c2n,c3,c3n,c4,c4n,c5,c5n,c6,hugeSeason,e_Huge13_l0]
 simp (disch:=first|omega|assumption|decide +kernel|(simp;done)|(simp;omega)|fail) [c0,c1,c2,c2n,c3,c3n,c4,c4n,c5,c5n,c6,hugeSeason,e_Huge13_l0]
end Go.Proofs.YtoedpegjoccnlaaGreat.A

/-
  The reference's Check of layer 13; far; ready.
-/
namespace Go.Proofs.YtoedpegjoccnlaaGreat.A
open Go.Ab
def skyAt(n:Season)(k:Nat):Bool:=match n.skies[k]?,n.follows[k]? with
 |some x,some l=>spanOk x.wind 20&&spanOk x.cur 20&&areSkies n.skies.length l
 |_,_=>false
def seasonOk(n:Season):Bool:=netOk n.net&&seaOk n.sea&&wiB n.skies.length 1 4&&decide ((n.follows.length:Int)=n.skies.length)&&areSkies n.skies.length n.first&&decide ((n.days.length:Int)≤5)&&allB (skyAt n) (List.range n.skies.length)&&allB (spanOk · 2000) n.days
theorem e_Check13_l0(n0:Int)(n1:Int)(n2:Int)(n3:Int)(n4:List Sp)(n5:List Anc)(n6:List Wal)(n7:Int)(n8:Int)(n9:List Sp)(n10:List Boat)(n11:List Sky)(n12:List (List Int))(n13:List Int)(n14:List Sp)(s:Stk)(hl:n11.length<4611686018427387904)(hn:n12.length=n11.length)(hf: ∀l∈n12,l.length<4611686018427387904):
 Run T b23l0 [(1, .ptr s.length 16 0),(3,i64 0)] ([(16, .cell [i64 n0,i64 n1,i64 n2,i64 n3, .sl .no 2 (es cSp n4), .sl .no 2 (es cAnc n5), .sl .no 5 (es cWal n6),i64 n7,i64 n8, .sl .no 2 (es cSp n9), .sl .no 2 (es cBoat n10), .sl .no 4 (es cSky n11), .sl .no 1 (es cInts n12), .sl .no 1 (es cInt n13), .sl .no 2 (es cSp n14)])]::s)=
  if allB (skyAt (⟨⟨⟨n0,n1⟩,⟨n2,n3⟩,n4,n5,n6⟩,⟨⟨n7,n8⟩,n9,n10⟩,n11,n12,n13,n14⟩:Season)) (List.range n11.length)=true then some (.exit 0,[(1, .ptr s.length 16 0),(3,i64 n11.length),(48, .bool false)],[(16, .cell [i64 n0,i64 n1,i64 n2,i64 n3, .sl .no 2 (es cSp n4), .sl .no 2 (es cAnc n5), .sl .no 5 (es cWal n6),i64 n7,i64 n8, .sl .no 2 (es cSp n9), .sl .no 2 (es cBoat n10), .sl .no 4 (es cSky n11), .sl .no 1 (es cInts n12), .sl .no 1 (es cInt n13), .sl .no 2 (es cSp n14)])]::s)
  else some (.ret,[(2,i64 130)],[(16, .cell [i64 n0,i64 n1,i64 n2,i64 n3, .sl .no 2 (es cSp n4), .sl .no 2 (es cAnc n5), .sl .no 5 (es cWal n6),i64 n7,i64 n8, .sl .no 2 (es cSp n9), .sl .no 2 (es cBoat n10), .sl .no 4 (es cSky n11), .sl .no 1 (es cInts n12), .sl .no 1 (es cInt n13), .sl .no 2 (es cSp n14)])]::s):=by
 refine loop_all (List.range n11.length) (skyAt (⟨⟨⟨n0,n1⟩,⟨n2,n3⟩,n4,n5,n6⟩,⟨⟨n7,n8⟩,n9,n10⟩,n11,n12,n13,n14⟩:Season)) (fun k=>[(1, .ptr s.length 16 0),(3,i64 k)]) (fun _=>[(16, .cell [i64 n0,i64 n1,i64 n2,i64 n3, .sl .no 2 (es cSp n4), .sl .no 2 (es cAnc n5), .sl .no 5 (es cWal n6),i64 n7,i64 n8, .sl .no 2 (es cSp n9), .sl .no 2 (es cBoat n10), .sl .no 4 (es cSky n11), .sl .no 1 (es cInts n12), .sl .no 1 (es cInt n13), .sl .no 2 (es cSp n14)])]::s) _ _ (by simp) (by simp) ?_ (by simp) _ _ (by simp) (by simp)
 intro k hk
 simp only[List.length_range]at hk
 simp only[List.getElem_range]
 have hk2:k<n12.length:=by omega
 have hfk:=hf n12[k] (List.getElem_mem hk2)
 cases c0:spanOk n11[k].wind 20
 ·simp (disch:=first|omega|assumption|decide +kernel|(simp;done)|(simp;omega)|fail) [c0,hk,hk2,skyAt,wk k (by omega)]
 cases c1:spanOk n11[k].cur 20
 ·simp (disch:=first|omega|assumption|decide +kernel|(simp;done)|(simp;omega)|fail) [c0,c1,hk,hk2,skyAt,wk k (by omega)]
 cases c2:areSkies n11.length n12[k]
 ·simp (disch:=first|omega|assumption|decide +kernel|(simp;done)|(simp;omega)|fail) [c0,c1,c2,hk,hk2,skyAt,wk k (by omega)]
 simp (disch:=first|omega|assumption|decide +kernel|(simp;done)|(simp;omega)|fail) [c0,c1,c2,hk,hk2,skyAt,wk k (by omega)]
theorem e_Check13_l1(n0:Int)(n1:Int)(n2:Int)(n3:Int)(n4:List Sp)(n5:List Anc)(n6:List Wal)(n7:Int)(n8:Int)(n9:List Sp)(n10:List Boat)(n11:List Sky)(n12:List (List Int))(n13:List Int)(n14:List Sp)(s:Stk)(hl:n14.length<4611686018427387904):
 Run T b23l1 [(1, .ptr s.length 16 0),(4,i64 0)] ([(16, .cell [i64 n0,i64 n1,i64 n2,i64 n3, .sl .no 2 (es cSp n4), .sl .no 2 (es cAnc n5), .sl .no 5 (es cWal n6),i64 n7,i64 n8, .sl .no 2 (es cSp n9), .sl .no 2 (es cBoat n10), .sl .no 4 (es cSky n11), .sl .no 1 (es cInts n12), .sl .no 1 (es cInt n13), .sl .no 2 (es cSp n14)])]::s)=if allB (spanOk · 2000) n14=true then some (.exit 2,[(1, .ptr s.length 16 0),(4,i64 n14.length),(83, .bool false)],([(16, .cell [i64 n0,i64 n1,i64 n2,i64 n3, .sl .no 2 (es cSp n4), .sl .no 2 (es cAnc n5), .sl .no 5 (es cWal n6),i64 n7,i64 n8, .sl .no 2 (es cSp n9), .sl .no 2 (es cBoat n10), .sl .no 4 (es cSky n11), .sl .no 1 (es cInts n12), .sl .no 1 (es cInt n13), .sl .no 2 (es cSp n14)])]::s))else some (.ret,[(2,i64 130)],([(16, .cell [i64 n0,i64 n1,i64 n2,i64 n3, .sl .no 2 (es cSp n4), .sl .no 2 (es cAnc n5), .sl .no 5 (es cWal n6),i64 n7,i64 n8, .sl .no 2 (es cSp n9), .sl .no 2 (es cBoat n10), .sl .no 4 (es cSky n11), .sl .no 1 (es cInts n12), .sl .no 1 (es cInt n13), .sl .no 2 (es cSp n14)])]::s)):=by
 refine loop_all n14 (spanOk · 2000) (fun k=>[(1, .ptr s.length 16 0),(4,i64 k)]) (fun _=>([(16, .cell [i64 n0,i64 n1,i64 n2,i64 n3, .sl .no 2 (es cSp n4), .sl .no 2 (es cAnc n5), .sl .no 5 (es cWal n6),i64 n7,i64 n8, .sl .no 2 (es cSp n9), .sl .no 2 (es cBoat n10), .sl .no 4 (es cSky n11), .sl .no 1 (es cInts n12), .sl .no 1 (es cInt n13), .sl .no 2 (es cSp n14)])]::s)) _ _ (by simp) (by simp) ?_ (by simp) _ _ (by simp) (by simp)
 intro k hk
 cases h:(spanOk · 2000) n14[k]<;>(try simp at h)<;>simp (disch:=first|omega|assumption|decide +kernel|(simp;done)|(simp;omega)|fail) [hk,h,wk k (by omega)]
@[simp] theorem e_Check13(n0:Int)(n1:Int)(n2:Int)(n3:Int)(n4:List Sp)(n5:List Anc)(n6:List Wal)(n7:Int)(n8:Int)(n9:List Sp)(n10:List Boat)(n11:List Sky)(n12:List (List Int))(n13:List Int)(n14:List Sp)(h11:n11.length<4611686018427387904)(h13:n13.length<4611686018427387904)(h14:n14.length<4611686018427387904)(hf: ∀l∈n12,l.length<4611686018427387904)(lab s):
 den T 23 [.agg [i64 n0,i64 n1,i64 n2,i64 n3, .sl .no 2 (es cSp n4), .sl .no 2 (es cAnc n5), .sl .no 5 (es cWal n6),i64 n7,i64 n8, .sl .no 2 (es cSp n9), .sl .no 2 (es cBoat n10), .sl .no 4 (es cSky n11), .sl .no 1 (es cInts n12), .sl .no 1 (es cInt n13), .sl .no 2 (es cSp n14)]] lab s=some (i64 (if seasonOk (⟨⟨⟨n0,n1⟩,⟨n2,n3⟩,n4,n5,n6⟩,⟨⟨n7,n8⟩,n9,n10⟩,n11,n12,n13,n14⟩:Season)=true then 0 else 130),s):=by
 rw[den_fn t23 _ _ _ rfl]
 simp only[b23]
 by_cases hn:n12.length=n11.length
 ·have hl0:=e_Check13_l0 n0 n1 n2 n3 n4 n5 n6 n7 n8 n9 n10 n11 n12 n13 n14 s h11 hn hf
  have hn':(n12.length:Int)=n11.length:=by omega
  cases c0:netOk ⟨⟨n0,n1⟩,⟨n2,n3⟩,n4,n5,n6⟩
  ·simp (disch:=first|omega|assumption|decide +kernel|(simp;done)|(simp;omega)|fail) [c0,seasonOk,hl0,e_Check13_l1,hn']
  cases c1:seaOk ⟨⟨n7,n8⟩,n9,n10⟩
  ·simp (disch:=first|omega|assumption|decide +kernel|(simp;done)|(simp;omega)|fail) [c0,c1,seasonOk,hl0,e_Check13_l1,hn']
  cases c2:wiB n11.length 1 4
  ·simp (disch:=first|omega|assumption|decide +kernel|(simp;done)|(simp;omega)|fail) [c0,c1,c2,seasonOk,hl0,e_Check13_l1,hn']
  cases c3:areSkies n11.length n13
  ·simp (disch:=first|omega|assumption|decide +kernel|(simp;done)|(simp;omega)|fail) [c0,c1,c2,c3,seasonOk,hl0,e_Check13_l1,hn']
  by_cases c4:(5:Int)<n14.length
  ·have c4n:=c4
   try simp at c4n
   simp (disch:=first|omega|assumption|decide +kernel|(simp;done)|(simp;omega)|fail) [c0,c1,c2,c3,c4,c4n,seasonOk,hl0,e_Check13_l1,hn']<;>omega
  have c4n:=c4
  try simp at c4n
  cases c5:allB (skyAt (⟨⟨⟨n0,n1⟩,⟨n2,n3⟩,n4,n5,n6⟩,⟨⟨n7,n8⟩,n9,n10⟩,n11,n12,n13,n14⟩:Season)) (List.range n11.length)
  ·simp (disch:=first|omega|assumption|decide +kernel|(simp;done)|(simp;omega)|fail) [c0,c1,c2,c3,c4,c4n,c5,seasonOk,hl0,e_Check13_l1,hn']
  cases c6:allB (spanOk · 2000) n14
  ·simp (disch:=first|omega|assumption|decide +kernel|(simp;done)|(simp;omega)|fail) [c0,c1,c2,c3,c4,c4n,c5,c6,seasonOk,hl0,e_Check13_l1,hn']
  simp (disch:=first|omega|assumption|decide +kernel|(simp;done)|(simp;omega)|fail) [c0,c1,c2,c3,c4,c4n,c5,c6,seasonOk,hl0,e_Check13_l1,hn']
 ·have hn': ¬(n12.length:Int)=n11.length:=by omega
  cases c0:netOk ⟨⟨n0,n1⟩,⟨n2,n3⟩,n4,n5,n6⟩
  ·simp (disch:=first|omega|assumption|decide +kernel|(simp;done)|(simp;omega)|fail) [c0,seasonOk,hn',hn]
  cases c1:seaOk ⟨⟨n7,n8⟩,n9,n10⟩
  ·simp (disch:=first|omega|assumption|decide +kernel|(simp;done)|(simp;omega)|fail) [c0,c1,seasonOk,hn',hn]
  cases c2:wiB n11.length 1 4
  ·simp (disch:=first|omega|assumption|decide +kernel|(simp;done)|(simp;omega)|fail) [c0,c1,c2,seasonOk,hn',hn]
  simp (disch:=first|omega|assumption|decide +kernel|(simp;done)|(simp;omega)|fail) [c0,c1,c2,seasonOk,hn',hn]
def cntNet(n:Net):Int:=n.grips.foldl (fun a x=>a*(x.hi-x.lo+1)) (n.cur.hi-n.cur.lo+1)
def farNet(n:Net):Bool:=hugeNet n||(netOk n&&(decide (24<cntNet n)||decide (100<cntNet n*(n.wind.hi-n.wind.lo+1))))
theorem mulb {a w A W:Int}(h1:0≤a)(h2:a≤A)(h3:0≤w)(h4:w≤W):0≤a*w∧a*w≤A*W:=
 ⟨Int.mul_nonneg h1 h3,Int.mul_le_mul h2 h4 h3 (Int.le_trans h1 h2)⟩
theorem cnt_le(l:List Sp)(hl:l.length≤3)(hg:allB (spanOk · 9) l=true)(a:Int)(h0:0≤a)(h1:a≤21):0≤l.foldl (fun a x=>a*(x.hi-x.lo+1)) a∧l.foldl (fun a x=>a*(x.hi-x.lo+1)) a≤21000:=by
 rw[allB_iff]at hg
 have w: ∀x∈l,0≤x.hi-x.lo+1∧x.hi-x.lo+1≤10:=fun x hx=>by have:=spanOk_iff.1 (hg x hx);omega
 match l,hl with
 |[],_=>simp only[List.foldl_nil];omega
 |[x],_=>
   simp only[List.foldl_cons,List.foldl_nil]
   have:=mulb h0 h1 (w x (by simp)).1 (w x (by simp)).2
   omega
 |[x,y],_=>
   simp only[List.foldl_cons,List.foldl_nil]
   have m1:=mulb h0 h1 (w x (by simp)).1 (w x (by simp)).2
   have m2:=mulb m1.1 m1.2 (w y (by simp)).1 (w y (by simp)).2
   omega
 |[x,y,z],_=>
   simp only[List.foldl_cons,List.foldl_nil]
   have m1:=mulb h0 h1 (w x (by simp)).1 (w x (by simp)).2
   have m2:=mulb m1.1 m1.2 (w y (by simp)).1 (w y (by simp)).2
   have m3:=mulb m2.1 m2.2 (w z (by simp)).1 (w z (by simp)).2
   omega
theorem foldl_take_succ {α σ:Type}(g:σ→α→σ)(l:List α)(a:σ)(k:Nat)(hk:k<l.length):(l.take (k+1)).foldl g a=g ((l.take k).foldl g a) l[k]:=by
 rw[List.take_succ_eq_append_getElem hk,List.foldl_append];rfl
theorem e_Far02_l0(n0:Int)(n1:Int)(n2:Int)(n3:Int)(n4:List Sp)(n5:List Anc)(n6:List Wal)(m:Int)(h0:0≤m)(h1:m≤21)(hl:n4.length≤3)(hg:allB (spanOk · 9) n4=true)(s:Stk):
 Run T b48l0 [(1, .ptr s.length 16 0),(3,i64 m),(4,i64 0)] ([(16, .cell [i64 n0,i64 n1,i64 n2,i64 n3, .sl .no 2 (es cSp n4), .sl .no 2 (es cAnc n5), .sl .no 5 (es cWal n6)])]::s)=
  some (.exit 0,[(1, .ptr s.length 16 0),(3,i64 (n4.foldl (fun a x=>a*(x.hi-x.lo+1)) m)),(4,i64 n4.length),(23, .bool false)],[(16, .cell [i64 n0,i64 n1,i64 n2,i64 n3, .sl .no 2 (es cSp n4), .sl .no 2 (es cAnc n5), .sl .no 5 (es cWal n6)])]::s):=by
 refine loop_fold n4 (fun k a=>a=(n4.take k).foldl (fun a x=>a*(x.hi-x.lo+1)) m) (fun a x=>a*(x.hi-x.lo+1)) (fun k a=>[(1, .ptr s.length 16 0),(3,i64 a),(4,i64 k)]) (fun _ _=>[(16, .cell [i64 n0,i64 n1,i64 n2,i64 n3, .sl .no 2 (es cSp n4), .sl .no 2 (es cAnc n5), .sl .no 5 (es cWal n6)])]::s) (fun a=>(.exit 0,[(1, .ptr s.length 16 0),(3,i64 a),(4,i64 n4.length),(23, .bool false)],[(16, .cell [i64 n0,i64 n1,i64 n2,i64 n3, .sl .no 2 (es cSp n4), .sl .no 2 (es cAnc n5), .sl .no 5 (es cWal n6)])]::s)) (by simp) ?_ ?_ ?_ m (by simp) _ _ (by simp) (by simp)
 ·intro k a hk hi
  have hs:=spanOk_iff.1 (allB_iff.1 hg n4[k] (List.getElem_mem hk))
  have b:=cnt_le (n4.take (k+1)) (by simp;omega) (by rw[allB_iff]at hg⊢;exact fun x hx=>hg x (List.mem_of_mem_take hx)) m h0 h1
  rw[foldl_take_succ _ _ _ _ hk,←hi]at b
  simp (disch:=first|omega|assumption|decide +kernel|(simp;done)|(simp;omega)|fail) [hk,wk k (by omega),wi]
 ·intro k a hk hi
  rw[foldl_take_succ _ _ _ _ hk,←hi]
 ·intro a hi;simp
theorem netOk_iff {n:Net}:netOk n=true↔spanOk n.wind 20=true∧spanOk n.cur 20=true∧n.grips.length≤3∧n.anch.length≤6∧(n.walls.length:Int)=max 0 ((n.anch.length:Int)-1)∧allB (spanOk · 9) n.grips=true∧allB (ancOk n.grips.length) n.anch=true∧allB walOk n.walls=true:=by
 simp only[netOk,Bool.and_eq_true,decide_eq_true_eq,and_assoc]
@[simp] theorem e_Far02(n0:Int)(n1:Int)(n2:Int)(n3:Int)(n4:List Sp)(n5:List Anc)(n6:List Wal)(lab s):den T 48 [.agg [i64 n0,i64 n1,i64 n2,i64 n3, .sl .no 2 (es cSp n4), .sl .no 2 (es cAnc n5), .sl .no 5 (es cWal n6)]] lab s=some (.bool (farNet (⟨⟨n0,n1⟩,⟨n2,n3⟩,n4,n5,n6⟩:Net)),s):=by
 rw[den_fn t48 _ _ _ rfl]
 simp only[b48]
 cases h1:hugeNet ⟨⟨n0,n1⟩,⟨n2,n3⟩,n4,n5,n6⟩
 rotate_left
 ·simp (disch:=first|omega|assumption|decide +kernel|(simp;done)|(simp;omega)|fail) [h1,farNet]
 cases h2:netOk ⟨⟨n0,n1⟩,⟨n2,n3⟩,n4,n5,n6⟩
 ·simp (disch:=first|omega|assumption|decide +kernel|(simp;done)|(simp;omega)|fail) [h1,h2,farNet]
 obtain⟨a1,a2,a3,a4,a5,a6,a7,a8⟩:=netOk_iff.1 h2
 have b1:=spanOk_iff.1 a1
 have b2:=spanOk_iff.1 a2
 simp only at a1 a2 a3 a4 a5 a6 a7 a8 b1 b2
 have hl0:=e_Far02_l0 n0 n1 n2 n3 n4 n5 n6 (n3-n2+1) (by omega) (by omega) a3 a6 s
 have hc:=cnt_le n4 a3 a6 (n3-n2+1) (by omega) (by omega)
 have hm:=mulb hc.1 hc.2 (w:=n1-n0+1) (W:=21) (by omega) (by omega)
 have w1:IntKind.i64.wrap (n3-n2)=n3-n2:=wi _ (by omega) (by omega)
 have w2:IntKind.i64.wrap (n3-n2+1)=n3-n2+1:=wi _ (by omega) (by omega)
 generalize hq:n4.foldl (fun a x=>a*(x.hi-x.lo+1)) (n3-n2+1)=q at*
 by_cases c0:(24:Int)<q
 ·have c0n:=c0
  try simp at c0n
  simp (disch:=first|omega|assumption|decide +kernel|(simp;done)|(simp;omega)|fail) [c0,c0n,h1,h2,farNet,w1,w2,hl0,hq,cntNet,wi]
 have c0n:=c0
 try simp at c0n
 by_cases c1:(100:Int)<q*(n1-n0+1)
 ·have c1n:=c1
  try simp at c1n
  simp (disch:=first|omega|assumption|decide +kernel|(simp;done)|(simp;omega)|fail) [c0,c0n,c1,c1n,h1,h2,farNet,w1,w2,hl0,hq,cntNet,wi]
 have c1n:=c1
 try simp at c1n
 simp (disch:=first|omega|assumption|decide +kernel|(simp;done)|(simp;omega)|fail) [c0,c0n,c1,c1n,h1,h2,farNet,w1,w2,hl0,hq,cntNet,wi]
def farSeason(n:Season):Bool:=hugeSeason n||(seasonOk n&&(decide (3<(n.skies.length:Int))||decide (4<(n.days.length:Int))||anyB (fun x=>farNet {n.net with wind:=x.wind,cur:=x.cur}) n.skies))
theorem seasonOk_iff {n:Season}:seasonOk n=true↔netOk n.net=true∧seaOk n.sea=true∧1≤n.skies.length∧n.skies.length≤4∧n.follows.length=n.skies.length∧areSkies n.skies.length n.first=true∧n.days.length≤5∧allB (skyAt n) (List.range n.skies.length)=true∧allB (spanOk · 2000) n.days=true:=by
 simp only[seasonOk,Bool.and_eq_true,decide_eq_true_eq,and_assoc,within_iff]
 have:((1:Int)≤n.skies.length↔1≤n.skies.length)∧((n.skies.length:Int)≤4↔n.skies.length≤4)∧((n.follows.length:Int)=n.skies.length↔n.follows.length=n.skies.length)∧((n.days.length:Int)≤5↔n.days.length≤5):=by omega
 rw[this.1,this.2.1,this.2.2.1,this.2.2.2]
theorem e_Far13_l0(n0:Int)(n1:Int)(n2:Int)(n3:Int)(n4:List Sp)(n5:List Anc)(n6:List Wal)(n7:Int)(n8:Int)(n9:List Sp)(n10:List Boat)(n11:List Sky)(n12:List (List Int))(n13:List Int)(n14:List Sp)(h11:n11.length≤4)(h4:n4.length≤3)(h5:n5.length≤6)(h6:n6.length≤6)(b:Bool)(s:Stk):
 Run T b22l0 [(1, .ptr s.length 16 0),(3, .bool b),(4,i64 0)] ([(16, .cell [i64 n0,i64 n1,i64 n2,i64 n3, .sl .no 2 (es cSp n4), .sl .no 2 (es cAnc n5), .sl .no 5 (es cWal n6),i64 n7,i64 n8, .sl .no 2 (es cSp n9), .sl .no 2 (es cBoat n10), .sl .no 4 (es cSky n11), .sl .no 1 (es cInts n12), .sl .no 1 (es cInt n13), .sl .no 2 (es cSp n14)])]::s)=
  some (.exit 0,[(1, .ptr s.length 16 0),(3, .bool (b||anyB (fun x=>farNet ⟨x.wind,x.cur,n4,n5,n6⟩) n11)),(4,i64 n11.length),(24, .bool false)],[(16, .cell [i64 n0,i64 n1,i64 n2,i64 n3, .sl .no 2 (es cSp n4), .sl .no 2 (es cAnc n5), .sl .no 5 (es cWal n6),i64 n7,i64 n8, .sl .no 2 (es cSp n9), .sl .no 2 (es cBoat n10), .sl .no 4 (es cSky n11), .sl .no 1 (es cInts n12), .sl .no 1 (es cInt n13), .sl .no 2 (es cSp n14)])]::s):=by
 have key:Run T b22l0 [(1, .ptr s.length 16 0),(3, .bool b),(4,i64 0)] ([(16, .cell [i64 n0,i64 n1,i64 n2,i64 n3, .sl .no 2 (es cSp n4), .sl .no 2 (es cAnc n5), .sl .no 5 (es cWal n6),i64 n7,i64 n8, .sl .no 2 (es cSp n9), .sl .no 2 (es cBoat n10), .sl .no 4 (es cSky n11), .sl .no 1 (es cInts n12), .sl .no 1 (es cInt n13), .sl .no 2 (es cSp n14)])]::s)=some ((fun a=>(.exit 0,[(1, .ptr s.length 16 0),(3, .bool a),(4,i64 n11.length),(24, .bool false)],[(16, .cell [i64 n0,i64 n1,i64 n2,i64 n3, .sl .no 2 (es cSp n4), .sl .no 2 (es cAnc n5), .sl .no 5 (es cWal n6),i64 n7,i64 n8, .sl .no 2 (es cSp n9), .sl .no 2 (es cBoat n10), .sl .no 4 (es cSky n11), .sl .no 1 (es cInts n12), .sl .no 1 (es cInt n13), .sl .no 2 (es cSp n14)])]::s)) (n11.foldl (fun(a:Bool) (x:Sky)=>a||farNet ⟨x.wind,x.cur,n4,n5,n6⟩) b)):=by
  refine loop_fold n11 (fun _ _=>True) _ (fun k a=>[(1, .ptr s.length 16 0),(3, .bool a),(4,i64 k)]) (fun _ _=>[(16, .cell [i64 n0,i64 n1,i64 n2,i64 n3, .sl .no 2 (es cSp n4), .sl .no 2 (es cAnc n5), .sl .no 5 (es cWal n6),i64 n7,i64 n8, .sl .no 2 (es cSp n9), .sl .no 2 (es cBoat n10), .sl .no 4 (es cSky n11), .sl .no 1 (es cInts n12), .sl .no 1 (es cInt n13), .sl .no 2 (es cSp n14)])]::s) (fun a=>(.exit 0,[(1, .ptr s.length 16 0),(3, .bool a),(4,i64 n11.length),(24, .bool false)],[(16, .cell [i64 n0,i64 n1,i64 n2,i64 n3, .sl .no 2 (es cSp n4), .sl .no 2 (es cAnc n5), .sl .no 5 (es cWal n6),i64 n7,i64 n8, .sl .no 2 (es cSp n9), .sl .no 2 (es cBoat n10), .sl .no 4 (es cSky n11), .sl .no 1 (es cInts n12), .sl .no 1 (es cInt n13), .sl .no 2 (es cSp n14)])]::s)) (by simp) ?_ ?_ ?_ b trivial _ _ (by simp) (by simp)
  ·intro k a hk _
   cases a
   ·simp (disch:=first|omega|assumption|decide +kernel|(simp;done)|(simp;omega)|fail) [hk,wk k (by omega)]
   ·simp (disch:=first|omega|assumption|decide +kernel|(simp;done)|(simp;omega)|fail) [hk,wk k (by omega)]
  ·intros;trivial
  ·intro a _;simp
 rw[key]
 have: ∀(l:List Sky) (b:Bool),l.foldl (fun(a:Bool) (x:Sky)=>a||farNet ⟨x.wind,x.cur,n4,n5,n6⟩) b=(b||anyB (fun x=>farNet ⟨x.wind,x.cur,n4,n5,n6⟩) l):=by
  intro l
  induction l with
  |nil=>intro b;simp[anyB]
  |cons x r ih=>intro b;simp only[List.foldl_cons,ih,anyB,List.any_cons,Bool.or_assoc]
 rw[this]
@[simp] theorem e_Far13(n0:Int)(n1:Int)(n2:Int)(n3:Int)(n4:List Sp)(n5:List Anc)(n6:List Wal)(n7:Int)(n8:Int)(n9:List Sp)(n10:List Boat)(n11:List Sky)(n12:List (List Int))(n13:List Int)(n14:List Sp)(h11:n11.length<4611686018427387904)(h12:n12.length<4611686018427387904)(h13:n13.length<4611686018427387904)(h14:n14.length<4611686018427387904)(hf: ∀l∈n12,l.length<4611686018427387904)(lab s):
 den T 22 [.agg [i64 n0,i64 n1,i64 n2,i64 n3, .sl .no 2 (es cSp n4), .sl .no 2 (es cAnc n5), .sl .no 5 (es cWal n6),i64 n7,i64 n8, .sl .no 2 (es cSp n9), .sl .no 2 (es cBoat n10), .sl .no 4 (es cSky n11), .sl .no 1 (es cInts n12), .sl .no 1 (es cInt n13), .sl .no 2 (es cSp n14)]] lab s=some (.bool (farSeason (⟨⟨⟨n0,n1⟩,⟨n2,n3⟩,n4,n5,n6⟩,⟨⟨n7,n8⟩,n9,n10⟩,n11,n12,n13,n14⟩:Season)),s):=by
 rw[den_fn t22 _ _ _ rfl]
 simp only[b22]
 cases h1:hugeSeason (⟨⟨⟨n0,n1⟩,⟨n2,n3⟩,n4,n5,n6⟩,⟨⟨n7,n8⟩,n9,n10⟩,n11,n12,n13,n14⟩:Season)
 rotate_left
 ·simp (disch:=first|omega|assumption|decide +kernel|(simp;done)|(simp;omega)|fail) [h1,farSeason]
 cases h2:seasonOk (⟨⟨⟨n0,n1⟩,⟨n2,n3⟩,n4,n5,n6⟩,⟨⟨n7,n8⟩,n9,n10⟩,n11,n12,n13,n14⟩:Season)
 ·simp (disch:=first|omega|assumption|decide +kernel|simp) [h1,h2,farSeason]
 obtain⟨a1,a2,a3,a4,a5,a6,a7,a8,a9⟩:=seasonOk_iff.1 h2
 obtain⟨b1,b2,b3,b4,b5,b6,b7,b8⟩:=netOk_iff.1 a1
 simp only at a3 a4 a5 a7 b3 b4 b5
 have hl0:=fun b=>e_Far13_l0 n0 n1 n2 n3 n4 n5 n6 n7 n8 n9 n10 n11 n12 n13 n14 a4 b3 b4 (by omega) b s
 by_cases c1:(3:Int)<n11.length
 ·simp (disch:=first|omega|assumption|decide +kernel|simp) [h1,h2,farSeason,hl0,c1]
 by_cases c2:(4:Int)<n14.length
 ·simp (disch:=first|omega|assumption|decide +kernel|simp) [h1,h2,farSeason,hl0,c1,c2]
 simp (disch:=first|omega|assumption|decide +kernel|simp) [h1,h2,farSeason,hl0,c1,c2]
def ready(n:Season):Bool:= !farSeason n&&seasonOk n
end Go.Proofs.YtoedpegjoccnlaaGreat.A

/-
  The program's Check of layers 2, 5 and 13.
-/
namespace Go.Proofs.YtoedpegjoccnlaaGreat.A
open Go.Ab
theorem denV_fn(f first cap args lab s):denV T (.fn f first cap) args lab s=den T f (first ++args ++cap) lab s:=rfl
def outside(m n:Int):Bool:=decide (n<0)||decide (m<n)
theorem e_inside1(n m:Int)(d:Nat)(S:Stk)(hd:d<S.length)(h:sget S d 32=some (.cell [i64 m]))(lab):den T 152 [i64 n, .ptr d 32 0] lab S=some (.bool (outside m n),S):=by
 rw[den_fn t152 _ _ _ rfl]
 simp only[b152]
 have hd': ¬d=S.length:=by omega
 by_cases c0:n<0
 ·have c0n:=c0
  try simp at c0n
  simp (disch:=first|omega|assumption|decide +kernel|(simp;done)|(simp;omega)|fail) [c0,c0n,h,hd',outside]
 have c0n:=c0
 try simp at c0n
 by_cases c1:m<n
 ·have c1n:=c1
  try simp at c1n
  simp (disch:=first|omega|assumption|decide +kernel|(simp;done)|(simp;omega)|fail) [c0,c0n,c1,c1n,h,hd',outside]
 have c1n:=c1
 try simp at c1n
 simp (disch:=first|omega|assumption|decide +kernel|(simp;done)|(simp;omega)|fail) [c0,c0n,c1,c1n,h,hd',outside]
theorem e_IndexFunc_l(l:List Int)(fv:V)(p:Int→Bool)(S:Stk)(hl:l.length<4611686018427387904)(hs:V.strip fv=fv)(hm: ∀keep,V.map (dropR S.length keep) fv=fv)
 (hf: ∀n lab (loc:Ab.Loc),denV T fv [i64 n] lab (loc::S)=some (.bool (p n),loc::S)):
 ∃g:Nat,Run T b166l0 [(0, .sl .no 1 (es cInt l)),(1,fv),(7,i64 l.length),(8,i64 0)] ([]::S)=
  if allB (fun x=> !p x) l=true then some (.exit 0,[(0, .sl .no 1 (es cInt l)),(1,fv),(7,i64 l.length),(8,i64 l.length),(9, .bool false)],[]::S)else some (.ret,[(4,i64 (g:Nat))],[]::S):=by
 refine loop_all_g l (fun x=> !p x) (fun k=>[(0, .sl .no 1 (es cInt l)),(1,fv),(7,i64 l.length),(8,i64 k)]) (fun _=>[]::S) (fun g:Nat=>(.ret,[(4,i64 (g:Nat))],[]::S)) _ (by simp) (by simp) ?_ (by simp) _ _ (by simp[hm]) (by simp)
 intro k hk
 refine⟨k,?_⟩
 cases h:p l[k]
 ·simp (disch:=first|omega|assumption|decide +kernel|(simp;done)|(simp;omega)|fail) [hk,h,hf,hm,wk k (by omega)]
 ·simp (disch:=first|omega|assumption|decide +kernel|(simp;done)|(simp;omega)|fail) [hk,h,hf,hm,wk k (by omega)]
theorem e_IndexFunc(l:List Int)(fv:V)(p:Int→Bool)(S:Stk)(hl:l.length<4611686018427387904)(hs:V.strip fv=fv)(hm: ∀keep,V.map (dropR S.length keep) fv=fv)
 (hf: ∀n lab (loc:Ab.Loc),denV T fv [i64 n] lab (loc::S)=some (.bool (p n),loc::S)) (lab):
 ∃r:Int,den T 166 [.sl .no 1 (es cInt l),fv] lab S=some (i64 r,S)∧(0≤r↔anyB p l=true):=by
 obtain⟨g,hg⟩:=e_IndexFunc_l l fv p S hl hs hm hf
 have ha:anyB p l= !allB (fun x=> !p x) l:=by simp only[anyB,allB,List.not_all_eq_any_not,Bool.not_not]
 rw[ha]
 refine⟨if allB (fun x=> !p x) l=true then -1 else g,?_,?_⟩
 rotate_left
 ·cases allB (fun x=> !p x) l<;>simp
 rw[den_fn t166 _ _ _ rfl]
 simp only[b166]
 cases h:allB (fun x=> !p x) l<;>simp (disch:=first|omega|assumption|decide +kernel|(simp;done)|(simp;omega)|fail) [hg,h,hm]
theorem e_ContainsFunc(l:List Int)(fv:V)(p:Int→Bool)(S:Stk)(hl:l.length<4611686018427387904)(hs:V.strip fv=fv)(hm: ∀d keep,S.length≤d→V.map (dropR d keep) fv=fv)
 (hf: ∀n lab (a b:Ab.Loc),denV T fv [i64 n] lab (a::b::S)=some (.bool (p n),a::b::S)) (lab):
 den T 151 [.sl .no 1 (es cInt l),fv] lab S=some (.bool (anyB p l),S):=by
 obtain⟨r,hr,hi⟩:=e_IndexFunc l fv p ([]::S) hl hs (fun keep=>hm _ keep (by simp)) (fun n lab loc=>hf n lab loc []) 112
 rw[den_fn t151 _ _ _ rfl]
 simp only[b151]
 by_cases h:0≤r
 ·have:=hi.1 h
  simp (disch:=first|omega|assumption|decide +kernel|(simp;done)|(simp;omega)|fail) [hr,h,hs,this]
 ·have:anyB p l=false:=by cases ha:anyB p l;rfl;exact absurd (hi.2 ha) h
  simp (disch:=first|omega|assumption|decide +kernel|(simp;done)|(simp;omega)|fail) [hr,h,hs,this]
theorem e_inside(m:Int)(l:List Int)(hl:l.length<4611686018427387904)(lab s):den T 131 [i64 m, .sl .no 1 (es cInt l)] lab s=some (.bool (!anyB (outside m) l),s):=by
 have h:=e_ContainsFunc l (.fn 152 [] [.ptr s.length 32 0]) (outside m) ([(32, .cell [i64 m])]::s) hl (by simp) (fun d keep hd=>by
  have: ¬s.length=d:=by simp at hd;omega
  simp[this]) (fun n lab a b=>by
  rw[denV_fn]
  exact e_inside1 n m s.length _ (by simp;omega) (by simp;omega) lab) 112
 rw[den_fn t131 _ _ _ rfl]
 simp only[b131]
 simp (disch:=first|omega|assumption|decide +kernel|(simp;done)|(simp;omega)|fail) [h]
theorem outside_within(m n:Int):(!outside m n)=wiB n 0 m:=by
 rw[Bool.eq_iff_iff]
 simp[outside,wiB]
@[simp] theorem e_inside_1(m a:Int)(lab s):den T 131 [i64 m, .sl .no 1 [[i64 a]]] lab s=some (.bool (wiB a 0 m),s):=by
 have:=e_inside m [a] (by simp) lab s
 simpa [es,anyB,outside_within]using this
@[simp] theorem e_inside_2(m a b:Int)(lab s):den T 131 [i64 m, .sl .no 1 [[i64 a],[i64 b]]] lab s=some (.bool (wiB a 0 m&&wiB b 0 m),s):=by
 have:=e_inside m [a,b] (by simp) lab s
 simpa [es,anyB,outside_within]using this
@[simp] theorem e_inside_3(m a b c:Int)(lab s):den T 131 [i64 m, .sl .no 1 [[i64 a],[i64 b],[i64 c]]] lab s=some (.bool (wiB a 0 m&&(wiB b 0 m&&wiB c 0 m)),s):=by
 have:=e_inside m [a,b,c] (by simp) lab s
 simpa [es,anyB,outside_within]using this
@[simp] theorem e_isSpan02p(x0:Int)(x1:Int)(m:Int)(lab s):den T 126 [.agg [i64 x0,i64 x1],i64 m] lab s=some (.bool (spanOk (⟨x0,x1⟩:Sp) m),s):=by
 rw[den_fn t126 _ _ _ rfl]
 simp only[b126]
 have e:spanOk (⟨x0,x1⟩:Sp) m=(wiB x0 0 m&&wiB x1 0 m&&decide (x0≤x1)):=by
  rw[Bool.eq_iff_iff,spanOk_iff];simp[wiB];omega
 rw[e]
 by_cases h:x0≤x1<;>cases h1:wiB x0 0 m<;>cases h2:wiB x1 0 m<;>simp (disch:=first|omega|assumption|decide +kernel|(simp;done)|(simp;omega)|fail) [h,h1,h2]
theorem e_everySpan_l(l:List Sp)(fv:V)(p:Sp→Bool)(S:Stk)(hl:l.length<4611686018427387904)(hm: ∀keep,V.map (dropR S.length keep) fv=fv)
 (hf: ∀x lab (loc:Ab.Loc),denV T fv [.agg (cSp x)] lab (loc::S)=some (.bool (p x),loc::S)):
 ∃g:Ab.Loc,Run T b127l0 [(1,fv),(7, .sl .no 2 (es cSp l)),(8,i64 l.length),(9,i64 0)] ([]::S)=
  if allB p l=true then some (.exit 0,[(1,fv),(7, .sl .no 2 (es cSp l)),(8,i64 l.length),(9,i64 l.length),(10, .bool false)],[]::S)else some (.ret,[(4, .bool false)],g::S):=by
 refine loop_all_g l p (fun k=>[(1,fv),(7, .sl .no 2 (es cSp l)),(8,i64 l.length),(9,i64 k)]) (fun _=>[]::S) (fun g=>(.ret,[(4, .bool false)],g::S)) _ (by simp) (by simp) ?_ (by simp) _ _ (by simp[hm]) (by simp)
 intro k hk
 have hx:=fun lab loc=>hf l[k] lab loc
 simp only[cSp]at hx
 refine⟨[(96, .cell (cSp l[k]))],?_⟩
 cases h:p l[k]
 ·simp (disch:=first|omega|assumption|decide +kernel|(simp;done)|(simp;omega)|fail) [hk,h,hx,hm,wk k (by omega)]
 ·simp (disch:=first|omega|assumption|decide +kernel|(simp;done)|(simp;omega)|fail) [hk,h,hx,hm,wk k (by omega)]
theorem e_everySpan(l:List Sp)(fv:V)(p:Sp→Bool)(S:Stk)(hl:l.length<4611686018427387904)(hm: ∀keep,V.map (dropR S.length keep) fv=fv)
 (hf: ∀x lab (loc:Ab.Loc),denV T fv [.agg (cSp x)] lab (loc::S)=some (.bool (p x),loc::S)) (lab):
 den T 127 [.sl .no 2 (es cSp l),fv] lab S=some (.bool (allB p l),S):=by
 obtain⟨g,hg⟩:=e_everySpan_l l fv p S hl hm hf
 rw[den_fn t127 _ _ _ rfl]
 simp only[b127]
 cases h:allB p l<;>simp (disch:=first|omega|assumption|decide +kernel|(simp;done)|(simp;omega)|fail) [hg,h,hm]
theorem e_everyAnchor_l(l:List Anc)(fv:V)(p:Anc→Bool)(S:Stk)(hl:l.length<4611686018427387904)(hm: ∀keep,V.map (dropR S.length keep) fv=fv)
 (hf: ∀x lab (loc:Ab.Loc),denV T fv [.agg (cAnc x)] lab (loc::S)=some (.bool (p x),loc::S)):
 ∃g:Ab.Loc,Run T b129l0 [(1,fv),(7, .sl .no 2 (es cAnc l)),(8,i64 l.length),(9,i64 0)] ([]::S)=
  if allB p l=true then some (.exit 0,[(1,fv),(7, .sl .no 2 (es cAnc l)),(8,i64 l.length),(9,i64 l.length),(10, .bool false)],[]::S)else some (.ret,[(4, .bool false)],g::S):=by
 refine loop_all_g l p (fun k=>[(1,fv),(7, .sl .no 2 (es cAnc l)),(8,i64 l.length),(9,i64 k)]) (fun _=>[]::S) (fun g=>(.ret,[(4, .bool false)],g::S)) _ (by simp) (by simp) ?_ (by simp) _ _ (by simp[hm]) (by simp)
 intro k hk
 have hx:=fun lab loc=>hf l[k] lab loc
 simp only[cAnc]at hx
 refine⟨[(96, .cell (cAnc l[k]))],?_⟩
 cases h:p l[k]
 ·simp (disch:=first|omega|assumption|decide +kernel|(simp;done)|(simp;omega)|fail) [hk,h,hx,hm,wk k (by omega)]
 ·simp (disch:=first|omega|assumption|decide +kernel|(simp;done)|(simp;omega)|fail) [hk,h,hx,hm,wk k (by omega)]
theorem e_everyAnchor(l:List Anc)(fv:V)(p:Anc→Bool)(S:Stk)(hl:l.length<4611686018427387904)(hm: ∀keep,V.map (dropR S.length keep) fv=fv)
 (hf: ∀x lab (loc:Ab.Loc),denV T fv [.agg (cAnc x)] lab (loc::S)=some (.bool (p x),loc::S)) (lab):
 den T 129 [.sl .no 2 (es cAnc l),fv] lab S=some (.bool (allB p l),S):=by
 obtain⟨g,hg⟩:=e_everyAnchor_l l fv p S hl hm hf
 rw[den_fn t129 _ _ _ rfl]
 simp only[b129]
 cases h:allB p l<;>simp (disch:=first|omega|assumption|decide +kernel|(simp;done)|(simp;omega)|fail) [hg,h,hm]
theorem e_everyAnchorWall_l(l:List Wal)(fv:V)(p:Wal→Bool)(S:Stk)(hl:l.length<4611686018427387904)(hm: ∀keep,V.map (dropR S.length keep) fv=fv)
 (hf: ∀x lab (loc:Ab.Loc),denV T fv [.agg (cWal x)] lab (loc::S)=some (.bool (p x),loc::S)):
 ∃g:Ab.Loc,Run T b132l0 [(1,fv),(7, .sl .no 5 (es cWal l)),(8,i64 l.length),(9,i64 0)] ([]::S)=
  if allB p l=true then some (.exit 0,[(1,fv),(7, .sl .no 5 (es cWal l)),(8,i64 l.length),(9,i64 l.length),(10, .bool false)],[]::S)else some (.ret,[(4, .bool false)],g::S):=by
 refine loop_all_g l p (fun k=>[(1,fv),(7, .sl .no 5 (es cWal l)),(8,i64 l.length),(9,i64 k)]) (fun _=>[]::S) (fun g=>(.ret,[(4, .bool false)],g::S)) _ (by simp) (by simp) ?_ (by simp) _ _ (by simp[hm]) (by simp)
 intro k hk
 have hx:=fun lab loc=>hf l[k] lab loc
 simp only[cWal]at hx
 refine⟨[(96, .cell (cWal l[k]))],?_⟩
 cases h:p l[k]
 ·simp (disch:=first|omega|assumption|decide +kernel|(simp;done)|(simp;omega)|fail) [hk,h,hx,hm,wk k (by omega)]
 ·simp (disch:=first|omega|assumption|decide +kernel|(simp;done)|(simp;omega)|fail) [hk,h,hx,hm,wk k (by omega)]
theorem e_everyAnchorWall(l:List Wal)(fv:V)(p:Wal→Bool)(S:Stk)(hl:l.length<4611686018427387904)(hm: ∀keep,V.map (dropR S.length keep) fv=fv)
 (hf: ∀x lab (loc:Ab.Loc),denV T fv [.agg (cWal x)] lab (loc::S)=some (.bool (p x),loc::S)) (lab):
 den T 132 [.sl .no 5 (es cWal l),fv] lab S=some (.bool (allB p l),S):=by
 obtain⟨g,hg⟩:=e_everyAnchorWall_l l fv p S hl hm hf
 rw[den_fn t132 _ _ _ rfl]
 simp only[b132]
 cases h:allB p l<;>simp (disch:=first|omega|assumption|decide +kernel|(simp;done)|(simp;omega)|fail) [hg,h,hm]
@[simp] theorem e_Check02p1(x:Sp)(lab s):den T 128 [.agg [i64 x.lo,i64 x.hi]] lab s=some (.bool (spanOk x 9),s):=by
 rw[den_fn t128 _ _ _ rfl]
 simp only[b128]
 simp (disch:=first|omega|assumption|decide +kernel|(simp;done)|(simp;omega)|fail)
theorem e_Check02p2(x:Anc)(g:Nat)(hg:g<4611686018427387904)(d:Nat)(S:Stk)(hd:d<S.length)(c0 c1 c2 c3 c5 c6:V)(L:List (List V))(z:Nat)(hL:L.length=g)(h:sget S d 16=some (.cell [c0,c1,c2,c3, .sl .no z L,c5,c6]))(lab):
 den T 130 [.agg [i64 x.weight,i64 x.bottom], .ptr d 16 0] lab S=some (.bool (ancOk g x),S):=by
 rw[den_fn t130 _ _ _ rfl]
 simp only[b130]
 have hd': ¬d=S.length:=by omega
 cases c0:wiB x.weight 0 20
 ·simp (disch:=first|omega|assumption|decide +kernel|(simp;done)|(simp;omega)|fail) [c0,h,hd',hL,ancOk,wi]
 cases c1:wiB x.bottom 0 (g-1)
 ·simp (disch:=first|omega|assumption|decide +kernel|(simp;done)|(simp;omega)|fail) [c0,c1,h,hd',hL,ancOk,wi]
 simp (disch:=first|omega|assumption|decide +kernel|(simp;done)|(simp;omega)|fail) [c0,c1,h,hd',hL,ancOk,wi]
@[simp] theorem e_Check02p3(x:Wal)(lab s):den T 133 [.agg [i64 x.sail,i64 x.drag,i64 x.lean,i64 x.corks,i64 x.stones]] lab s=some (.bool (walOk x),s):=by
 rw[den_fn t133 _ _ _ rfl]
 simp only[b133]
 cases c0:wiB x.sail 0 9
 ·simp (disch:=first|omega|assumption|decide +kernel|(simp;done)|(simp;omega)|fail) [c0,walOk]
 cases c1:wiB x.drag 0 9
 ·simp (disch:=first|omega|assumption|decide +kernel|(simp;done)|(simp;omega)|fail) [c0,c1,walOk]
 cases c2:wiB x.lean 0 9
 ·simp (disch:=first|omega|assumption|decide +kernel|(simp;done)|(simp;omega)|fail) [c0,c1,c2,walOk]
 cases c3:wiB x.corks 0 99
 ·simp (disch:=first|omega|assumption|decide +kernel|(simp;done)|(simp;omega)|fail) [c0,c1,c2,c3,walOk]
 cases c4:wiB x.stones 0 99
 ·simp (disch:=first|omega|assumption|decide +kernel|(simp;done)|(simp;omega)|fail) [c0,c1,c2,c3,c4,walOk]
 simp (disch:=first|omega|assumption|decide +kernel|(simp;done)|(simp;omega)|fail) [c0,c1,c2,c3,c4,walOk]
@[simp] theorem e_Check02p(n0:Int)(n1:Int)(n2:Int)(n3:Int)(n4:List Sp)(n5:List Anc)(n6:List Wal)(h4:n4.length<4611686018427387904)(h5:n5.length<4611686018427387904)(h6:n6.length<4611686018427387904)(lab s):den T 102 [.agg [i64 n0,i64 n1,i64 n2,i64 n3, .sl .no 2 (es cSp n4), .sl .no 2 (es cAnc n5), .sl .no 5 (es cWal n6)]] lab s=some (i64 (if netOk (⟨⟨n0,n1⟩,⟨n2,n3⟩,n4,n5,n6⟩:Net)=true then 0 else 20),s):=by
 rw[den_fn t102 _ _ _ rfl]
 simp only[b102]
 have g1:=fun lab=>e_everySpan n4 (.fn 128 [] []) (spanOk · 9) ([(16, .cell [i64 n0,i64 n1,i64 n2,i64 n3, .sl .no 2 (es cSp n4), .sl .no 2 (es cAnc n5), .sl .no 5 (es cWal n6)])]::s) h4 (by simp) (fun x lab loc=>by rw[denV_fn];simp) lab
 have g2:=fun lab=>e_everyAnchor n5 (.fn 130 [] [.ptr s.length 16 0]) (ancOk n4.length) ([(16, .cell [i64 n0,i64 n1,i64 n2,i64 n3, .sl .no 2 (es cSp n4), .sl .no 2 (es cAnc n5), .sl .no 5 (es cWal n6)])]::s) h5 (by simp) (fun x lab loc=>by
  rw[denV_fn];exact e_Check02p2 x n4.length h4 s.length _ (by simp;omega) (i64 n0) (i64 n1) (i64 n2) (i64 n3) (.sl .no 2 (es cAnc n5)) (.sl .no 5 (es cWal n6)) (es cSp n4) 2 (by simp) (by simp) lab) lab
 have g3:=fun lab=>e_everyAnchorWall n6 (.fn 133 [] []) walOk ([(16, .cell [i64 n0,i64 n1,i64 n2,i64 n3, .sl .no 2 (es cSp n4), .sl .no 2 (es cAnc n5), .sl .no 5 (es cWal n6)])]::s) h6 (by simp) (fun x lab loc=>by rw[denV_fn];simp) lab
 cases c0:spanOk ⟨n0,n1⟩ 20
 ·simp (disch:=first|omega|assumption|decide +kernel|(simp;done)|(simp;omega)|fail) [c0,netOk,wi,g1,g2,g3]
 cases c1:spanOk ⟨n2,n3⟩ 20
 ·simp (disch:=first|omega|assumption|decide +kernel|(simp;done)|(simp;omega)|fail) [c0,c1,netOk,wi,g1,g2,g3]
 by_cases c2:(n4.length:Int)≤3
 rotate_left
 ·have c2n:=c2
  try simp at c2n
  simp (disch:=first|omega|assumption|decide +kernel|(simp;done)|(simp;omega)|fail) [c0,c1,c2,c2n,netOk,wi,g1,g2,g3]<;>omega
 have c2n:=c2
 try simp at c2n
 by_cases c3:(n5.length:Int)≤6
 rotate_left
 ·have c3n:=c3
  try simp at c3n
  simp (disch:=first|omega|assumption|decide +kernel|(simp;done)|(simp;omega)|fail) [c0,c1,c2,c2n,c3,c3n,netOk,wi,g1,g2,g3]<;>omega
 have c3n:=c3
 try simp at c3n
 by_cases c4:(n6.length:Int)=max 0 ((n5.length:Int)-1)
 rotate_left
 ·have c4n:=c4
  try simp at c4n
  simp (disch:=first|omega|assumption|decide +kernel|(simp;done)|(simp;omega)|fail) [c0,c1,c2,c2n,c3,c3n,c4,c4n,netOk,wi,g1,g2,g3]
 have c4n:=c4
 try simp at c4n
 cases c5:allB (spanOk · 9) n4
 ·simp (disch:=first|omega|assumption|decide +kernel|(simp;done)|(simp;omega)|fail) [c0,c1,c2,c2n,c3,c3n,c4,c4n,c5,netOk,wi,g1,g2,g3]
 cases c6:allB (ancOk n4.length) n5
 ·simp (disch:=first|omega|assumption|decide +kernel|(simp;done)|(simp;omega)|fail) [c0,c1,c2,c2n,c3,c3n,c4,c4n,c5,c6,netOk,wi,g1,g2,g3]
 cases c7:allB walOk n6
 ·simp (disch:=first|omega|assumption|decide +kernel|(simp;done)|(simp;omega)|fail) [c0,c1,c2,c2n,c3,c3n,c4,c4n,c5,c6,c7,netOk,wi,g1,g2,g3]
 simp (disch:=first|omega|assumption|decide +kernel|(simp;done)|(simp;omega)|fail) [c0,c1,c2,c2n,c3,c3n,c4,c4n,c5,c6,c7,netOk,wi,g1,g2,g3]
 omega
end Go.Proofs.YtoedpegjoccnlaaGreat.A

/-
  The program's Check of layers 5 and 13.
-/
namespace Go.Proofs.YtoedpegjoccnlaaGreat.A
open Go.Ab
@[simp] theorem e_within05p(n lo hi:Int)(lab s):den T 108 [i64 n,i64 lo,i64 hi] lab s=some (.bool (wiB n lo hi),s):=by
 rw[den_fn t108 _ _ _ rfl]
 simp only[b108]
 by_cases h:lo≤n<;>simp[h,wiB]
@[simp] theorem e_within13p(n lo hi:Int)(lab s):den T 101 [i64 n,i64 lo,i64 hi] lab s=some (.bool (wiB n lo hi),s):=by
 rw[den_fn t101 _ _ _ rfl]
 simp only[b101]
 by_cases h:lo≤n<;>simp[h,wiB]
theorem spanOk_within {x y m:Int}:spanOk ⟨x,y⟩ m=(wiB x 0 y&&decide (y≤m)):=by
 rw[Bool.eq_iff_iff,spanOk_iff];simp[wiB];omega
@[simp] theorem e_isSpan13p(x0:Int)(x1:Int)(m:Int)(lab s):den T 103 [.agg [i64 x0,i64 x1],i64 m] lab s=some (.bool (spanOk (⟨x0,x1⟩:Sp) m),s):=by
 rw[den_fn t103 _ _ _ rfl]
 simp only[b103]
 rw[spanOk_within]
 cases h1:wiB x0 0 x1<;>simp (disch:=first|omega|assumption|decide +kernel|(simp;done)|(simp;omega)|fail) [h1]
theorem foldO_sums(p:Sp→Bool)(l:List Sp)(a:Int×Int):foldO (fun a x=>if p x=true then some (a.1+x.lo,a.2+x.hi)else none) l a=sums p l a:=by
 induction l generalizing a with
 |nil=>rfl
 |cons x r ih=>
   by_cases h:p x=true
   ·simp only[foldO,sums,h,if_true,ih]
   ·simp only[foldO,sums,h,Bool.false_eq_true,if_false]
theorem e_Check05p_l0(n0:Int)(n1:Int)(n2:List Sp)(n3:List Boat)(s:Stk)(hl:n2.length≤4):
 ∃g:Ab.Loc,Run T b88l0 [(1, .ptr s.length 16 0),(3,i64 0),(4,i64 0),(36, .sl .no 2 (es cSp n2)),(37,i64 n2.length),(38,i64 0)] ([(16, .cell [i64 n0,i64 n1, .sl .no 2 (es cSp n2), .sl .no 2 (es cBoat n3)])]::s)=
  if allB (spanOk · 12) n2=true then some (.exit 0,[(1, .ptr s.length 16 0),(3,i64 (lowSum n2)),(4,i64 (highSum n2)),(36, .sl .no 2 (es cSp n2)),(37,i64 n2.length),(38,i64 n2.length),(39, .bool false)],[(16, .cell [i64 n0,i64 n1, .sl .no 2 (es cSp n2), .sl .no 2 (es cBoat n3)])]::s)
  else some (.ret,[(2,i64 50)],g::s):=by
 have key:=loop_list_g (T:=T) (live:=[1,3,4,36,37,38]) (keep:=[16,128,240,1024,1200,1280]) n2 (fun k (a:Int×Int)=>0≤a.1∧a.1≤12*k∧0≤a.2∧a.2≤12*k) (fun k a=>[(1, .ptr s.length 16 0),(3,i64 a.1),(4,i64 a.2),(36, .sl .no 2 (es cSp n2)),(37,i64 n2.length),(38,i64 k)]) (fun _ _=>[(16, .cell [i64 n0,i64 n1, .sl .no 2 (es cSp n2), .sl .no 2 (es cBoat n3)])]::s)
  (fun a x=>if spanOk x 12=true then some (a.1+x.lo,a.2+x.hi)else none) (fun g:Ab.Loc=>(.ret,[(2,i64 50)],g::s)) (fun a=>(.exit 0,[(1, .ptr s.length 16 0),(3,i64 a.1),(4,i64 a.2),(36, .sl .no 2 (es cSp n2)),(37,i64 n2.length),(38,i64 n2.length),(39, .bool false)],[(16, .cell [i64 n0,i64 n1, .sl .no 2 (es cSp n2), .sl .no 2 (es cBoat n3)])]::s))
  (by simp) (by simp) (b:=d88l0) ?_ ?_ (0,0) (by simp) [(1, .ptr s.length 16 0),(3,i64 0),(4,i64 0),(36, .sl .no 2 (es cSp n2)),(37,i64 n2.length),(38,i64 0)] ([(16, .cell [i64 n0,i64 n1, .sl .no 2 (es cSp n2), .sl .no 2 (es cBoat n3)])]::s) (by simp) (by simp)
 ·obtain⟨g,hg⟩:=key
  refine⟨g,hg.trans ?_⟩
  rw[foldO_sums,sums_eq]
  cases allB (spanOk · 12) n2<;>simp
 ·intro k a hk hi
  refine⟨fun a' ha=> ?_,fun ha=> ?_⟩
  ·split at ha
   ·rename_i h0
    obtain⟨h1,h2,h3⟩:=spanOk_iff.1 h0
    cases ha
    refine⟨?_,by simp only;omega⟩
    have c1:wiB n2[k].lo 0 n2[k].hi=true:=within_iff.2 ⟨h1,h2⟩
    have c2: ¬12<n2[k].hi:=by omega
    simp (disch:=first|omega|assumption|decide +kernel|(simp;done)|(simp;omega)|fail) [hk,c1,c2,wk k (by omega),wi]
   ·cases ha
  ·split at ha
   ·cases ha
   ·rename_i h0
    refine⟨[(16, .cell [i64 n0,i64 n1, .sl .no 2 (es cSp n2), .sl .no 2 (es cBoat n3)]),(96, .cell (cSp n2[k]))],?_⟩
    cases c1:wiB n2[k].lo 0 n2[k].hi
    ·simp (disch:=first|omega|assumption|decide +kernel|(simp;done)|(simp;omega)|fail) [hk,c1]
    ·have c2:12<n2[k].hi:=by have:=within_iff.1 c1;rw[spanOk_iff]at h0;omega
     simp (disch:=first|omega|assumption|decide +kernel|(simp;done)|(simp;omega)|fail) [hk,c1,c2]
 ·intro a hi
  simp
theorem e_Check05p_l1(n0:Int)(n1:Int)(n2:List Sp)(n3:List Boat)(s:Stk)(hl:n3.length<4611686018427387904):
 ∃g:Ab.Loc,Run T b88l1 [(67, .sl .no 2 (es cBoat n3)),(68,i64 n3.length),(69,i64 0)] ([(16, .cell [i64 n0,i64 n1, .sl .no 2 (es cSp n2), .sl .no 2 (es cBoat n3)])]::s)=if allB boatOk n3=true then some (.exit 2,[(67, .sl .no 2 (es cBoat n3)),(68,i64 n3.length),(69,i64 n3.length),(70, .bool false)],([(16, .cell [i64 n0,i64 n1, .sl .no 2 (es cSp n2), .sl .no 2 (es cBoat n3)])]::s))else some (.ret,[(2,i64 50)],(g::s)):=by
 refine loop_all_g n3 boatOk (fun k=>[(67, .sl .no 2 (es cBoat n3)),(68,i64 n3.length),(69,i64 k)]) (fun _=>([(16, .cell [i64 n0,i64 n1, .sl .no 2 (es cSp n2), .sl .no 2 (es cBoat n3)])]::s)) (fun g=>(.ret,[(2,i64 50)],(g::s))) _ (by simp) (by simp) ?_ (by simp) _ _ (by simp) (by simp)
 intro k hk
 cases h0:wiB (n3[k]).carry 0 999
 ·refine⟨[(16, .cell [i64 n0,i64 n1, .sl .no 2 (es cSp n2), .sl .no 2 (es cBoat n3)]),(128, .cell (cBoat n3[k]))],?_⟩
  simp (disch:=first|omega|assumption|decide +kernel|(simp;done)|(simp;omega)|fail) [hk,h0,wk k (by omega),boatOk]
 cases h1:wiB (n3[k]).pence 0 99
 ·refine⟨[(16, .cell [i64 n0,i64 n1, .sl .no 2 (es cSp n2), .sl .no 2 (es cBoat n3)]),(128, .cell (cBoat n3[k]))],?_⟩
  simp (disch:=first|omega|assumption|decide +kernel|(simp;done)|(simp;omega)|fail) [hk,h0,h1,wk k (by omega),boatOk]
 refine⟨[],?_⟩
 simp (disch:=first|omega|assumption|decide +kernel|(simp;done)|(simp;omega)|fail) [hk,h0,h1,wk k (by omega),boatOk]
@[simp] theorem e_Check05p(n0:Int)(n1:Int)(n2:List Sp)(n3:List Boat)(lab s):den T 88 [.agg [i64 n0,i64 n1, .sl .no 2 (es cSp n2), .sl .no 2 (es cBoat n3)]] lab s=some (i64 (if seaOk (⟨⟨n0,n1⟩,n2,n3⟩:Sea)=true then 0 else 50),s):=by
 rw[den_fn t88 _ _ _ rfl]
 simp only[b88]
 rw[show seaOk (⟨⟨n0,n1⟩,n2,n3⟩:Sea)=(wiB n0 0 n1&&decide (n1≤2000)&&decide ((n2.length:Int)≤4)&&decide ((n3.length:Int)≤6)&&allB (spanOk · 12) n2&&(decide (lowSum n2≤12)&&decide (12≤highSum n2))&&allB boatOk n3)by
  simp only[seaOk,spanOk_within];cases wiB n0 0 n1<;>cases allB boatOk n3<;>cases allB (spanOk · 12) n2<;>simp[Bool.and_assoc]]
 cases q0:wiB n0 0 n1
 ·simp (disch:=first|omega|assumption|decide +kernel|(simp;done)|(simp;omega)|fail) [q0]
 by_cases q1:2000<n1
 ·simp (disch:=first|omega|assumption|decide +kernel|(simp;done)|(simp;omega)|fail) [q0,q1];omega
 by_cases q2:(4:Int)<n2.length
 ·simp (disch:=first|omega|assumption|decide +kernel|(simp;done)|(simp;omega)|fail) [q0,q1,q2];omega
 by_cases q3:(6:Int)<n3.length
 ·simp (disch:=first|omega|assumption|decide +kernel|(simp;done)|(simp;omega)|fail) [q0,q1,q2,q3];omega
 obtain⟨g,hg⟩:=e_Check05p_l0 n0 n1 n2 n3 s (by omega)
 obtain⟨g',hg'⟩:=e_Check05p_l1 n0 n1 n2 n3 s (by omega)
 have d1:n1≤2000:=by omega
 have d2:(n2.length:Int)≤4:=by omega
 have d3:(n3.length:Int)≤6:=by omega
 have w12:wiB 12 (lowSum n2) (highSum n2)=(decide (lowSum n2≤12)&&decide (12≤highSum n2)):=rfl
 rw[←w12]
 simp only[q0,d1,d2,d3,decide_true,Bool.true_and]
 clear d1 d2 d3 w12
 cases c0:allB (spanOk · 12) n2
 ·simp (disch:=first|omega|assumption|decide +kernel|(simp;done)|(simp;omega)|fail) [c0,q0,q1,q2,q3,hg,hg']
 cases c1:wiB 12 (lowSum n2) (highSum n2)
 ·simp (disch:=first|omega|assumption|decide +kernel|(simp;done)|(simp;omega)|fail) [c0,c1,q0,q1,q2,q3,hg,hg']
 cases c2:allB boatOk n3
 ·simp (disch:=first|omega|assumption|decide +kernel|(simp;done)|(simp;omega)|fail) [c0,c1,c2,q0,q1,q2,q3,hg,hg']
 simp (disch:=first|omega|assumption|decide +kernel|(simp;done)|(simp;omega)|fail) [c0,c1,c2,q0,q1,q2,q3,hg,hg']
theorem e_areSkies_l(l:List Int)(hl:l.length<4611686018427387904)(n:Nat)(hn:n<4611686018427387904)(d:Nat)(S:Stk)(hd:d<S.length)(c0 c1 c2 c3 c4 c5 c6 c7 c8 c9 c10 c12 c13 c14:V)(L:List (List V))(z:Nat)(hL:L.length=n)(h:sget S d 16=some (.cell [c0,c1,c2,c3,c4,c5,c6,c7,c8,c9,c10, .sl .no z L,c12,c13,c14])):
 Run T b100l0 [(0, .sl .no 1 (es cInt l)),(1, .ptr d 16 0),(6, .sl .no 1 (es cInt l)),(7,i64 l.length),(8,i64 0)] ([]::S)=
  if rising l 0 (n-1)=true then some (.exit 0,[(0, .sl .no 1 (es cInt l)),(1, .ptr d 16 0),(6, .sl .no 1 (es cInt l)),(7,i64 l.length),(8,i64 l.length),(9, .bool false)],[]::S)
  else some (.ret,[(3, .bool false)],[]::S):=by
 have hd': ¬d=S.length:=by omega
 refine loop_all (List.range l.length) (risingAt l 0 (n-1)) (fun k=>[(0, .sl .no 1 (es cInt l)),(1, .ptr d 16 0),(6, .sl .no 1 (es cInt l)),(7,i64 l.length),(8,i64 k)]) (fun _=>[]::S) _ _ (by simp) (by simp) ?_ (by simp) _ _ (by simp[hd']) (by simp)
 intro k hk
 simp only[List.length_range]at hk
 simp only[List.getElem_range]
 cases h0:wiB l[k] 0 (n-1)
 ·simp (disch:=first|omega|assumption|decide +kernel|(simp;done)|(simp;omega)|fail) [hk,h0,h,hd',hL,risingAt,wi]
 by_cases h1:k=0
 ·subst h1
  simp (disch:=first|omega|assumption|decide +kernel|(simp;done)|(simp;omega)|fail) [hk,h0,h,hd',hL,risingAt,wi]
 have hk1:k-1<l.length:=by omega
 have h1p:0<k:=by omega
 have h1q:(1:Int)≤k:=by omega
 have hn:((k:Int)-1).toNat=k-1:=by omega
 by_cases h2:l[k-1]<l[k]
 ·have h3: ¬l[k]≤l[k-1]:=by omega
  simp (disch:=first|omega|assumption|decide +kernel|(simp;done)|(simp;omega)|fail) [hk,hk1,h0,h1,h1p,h1q,h2,h3,hn,h,hd',hL,risingAt,wi]
 ·have h3:l[k]≤l[k-1]:=by omega
  simp (disch:=first|omega|assumption|decide +kernel|(simp;done)|(simp;omega)|fail) [hk,hk1,h0,h1,h1p,h1q,h2,h3,hn,h,hd',hL,risingAt,wi]
theorem e_areSkiesp(l:List Int)(hl:l.length<4611686018427387904)(n:Nat)(hn:n<4611686018427387904)(d:Nat)(S:Stk)(hd:d<S.length)(c0 c1 c2 c3 c4 c5 c6 c7 c8 c9 c10 c12 c13 c14:V)(L:List (List V))(z:Nat)(hL:L.length=n)(h:sget S d 16=some (.cell [c0,c1,c2,c3,c4,c5,c6,c7,c8,c9,c10, .sl .no z L,c12,c13,c14]))(lab):
 den T 100 [.sl .no 1 (es cInt l), .ptr d 16 0] lab S=some (.bool (areSkies n l),S):=by
 have hd': ¬d=S.length:=by omega
 have key:=e_areSkies_l l hl n hn d S hd c0 c1 c2 c3 c4 c5 c6 c7 c8 c9 c10 c12 c13 c14 L z hL h
 rw[den_fn t100 _ _ _ rfl]
 simp only[b100]
 cases h1:rising l 0 (n-1)
 ·simp (disch:=first|omega|assumption|decide +kernel|(simp;done)|(simp;omega)|fail) [hd',key,h1,areSkies]
 ·simp (disch:=first|omega|assumption|decide +kernel|(simp;done)|(simp;omega)|fail) [hd',key,h1,areSkies]
end Go.Proofs.YtoedpegjoccnlaaGreat.A

/-
  The program's Check of layer 13.
-/
namespace Go.Proofs.YtoedpegjoccnlaaGreat.A
open Go.Ab
theorem e_Check13p_l0(n0:Int)(n1:Int)(n2:Int)(n3:Int)(n4:List Sp)(n5:List Anc)(n6:List Wal)(n7:Int)(n8:Int)(n9:List Sp)(n10:List Boat)(n11:List Sky)(n12:List (List Int))(n13:List Int)(n14:List Sp)(s:Stk)(hl:n11.length<4611686018427387904)(hn:n12.length=n11.length)(hf: ∀l∈n12,l.length<4611686018427387904):
 ∃g:Ab.Loc,Run T b85l0 [(1, .ptr s.length 16 0),(3, .fn 100 [] [.ptr s.length 16 0]),(49, .sl .no 4 (es cSky n11)),(50,i64 n11.length),(51,i64 0)] ([(16, .cell [i64 n0,i64 n1,i64 n2,i64 n3, .sl .no 2 (es cSp n4), .sl .no 2 (es cAnc n5), .sl .no 5 (es cWal n6),i64 n7,i64 n8, .sl .no 2 (es cSp n9), .sl .no 2 (es cBoat n10), .sl .no 4 (es cSky n11), .sl .no 1 (es cInts n12), .sl .no 1 (es cInt n13), .sl .no 2 (es cSp n14)])]::s)=
  if allB (skyAt (⟨⟨⟨n0,n1⟩,⟨n2,n3⟩,n4,n5,n6⟩,⟨⟨n7,n8⟩,n9,n10⟩,n11,n12,n13,n14⟩:Season)) (List.range n11.length)=true then some (.exit 0,[(1, .ptr s.length 16 0),(3, .fn 100 [] [.ptr s.length 16 0]),(49, .sl .no 4 (es cSky n11)),(50,i64 n11.length),(51,i64 n11.length),(52, .bool false)],[(16, .cell [i64 n0,i64 n1,i64 n2,i64 n3, .sl .no 2 (es cSp n4), .sl .no 2 (es cAnc n5), .sl .no 5 (es cWal n6),i64 n7,i64 n8, .sl .no 2 (es cSp n9), .sl .no 2 (es cBoat n10), .sl .no 4 (es cSky n11), .sl .no 1 (es cInts n12), .sl .no 1 (es cInt n13), .sl .no 2 (es cSp n14)])]::s)
  else some (.ret,[(2,i64 130)],g::s):=by
 refine loop_all_g (List.range n11.length) (skyAt (⟨⟨⟨n0,n1⟩,⟨n2,n3⟩,n4,n5,n6⟩,⟨⟨n7,n8⟩,n9,n10⟩,n11,n12,n13,n14⟩:Season)) (fun k=>[(1, .ptr s.length 16 0),(3, .fn 100 [] [.ptr s.length 16 0]),(49, .sl .no 4 (es cSky n11)),(50,i64 n11.length),(51,i64 k)]) (fun _=>[(16, .cell [i64 n0,i64 n1,i64 n2,i64 n3, .sl .no 2 (es cSp n4), .sl .no 2 (es cAnc n5), .sl .no 5 (es cWal n6),i64 n7,i64 n8, .sl .no 2 (es cSp n9), .sl .no 2 (es cBoat n10), .sl .no 4 (es cSky n11), .sl .no 1 (es cInts n12), .sl .no 1 (es cInt n13), .sl .no 2 (es cSp n14)])]::s) (fun g=>(.ret,[(2,i64 130)],g::s)) _ (by simp) (by simp) ?_ (by simp) _ _ (by simp) (by simp)
 intro k hk
 simp only[List.length_range]at hk
 simp only[List.getElem_range]
 have hk2:k<n12.length:=by omega
 have hA:=fun lab=>e_areSkiesp n12[k] (hf n12[k] (List.getElem_mem hk2)) n11.length hl s.length ([(16, .cell [i64 n0,i64 n1,i64 n2,i64 n3, .sl .no 2 (es cSp n4), .sl .no 2 (es cAnc n5), .sl .no 5 (es cWal n6),i64 n7,i64 n8, .sl .no 2 (es cSp n9), .sl .no 2 (es cBoat n10), .sl .no 4 (es cSky n11), .sl .no 1 (es cInts n12), .sl .no 1 (es cInt n13), .sl .no 2 (es cSp n14)]),(80, .cell (cSky n11[k]))]::s) (by simp) _ _ _ _ _ _ _ _ _ _ _ _ _ _ (es cSky n11) 4 (by simp) ((sget_top _ _ _).trans rfl) lab
 simp only[cSky]at hA
 refine⟨[(16, .cell [i64 n0,i64 n1,i64 n2,i64 n3, .sl .no 2 (es cSp n4), .sl .no 2 (es cAnc n5), .sl .no 5 (es cWal n6),i64 n7,i64 n8, .sl .no 2 (es cSp n9), .sl .no 2 (es cBoat n10), .sl .no 4 (es cSky n11), .sl .no 1 (es cInts n12), .sl .no 1 (es cInt n13), .sl .no 2 (es cSp n14)]),(80, .cell (cSky n11[k]))],?_⟩
 cases c0:spanOk n11[k].wind 20
 ·simp (disch:=first|omega|assumption|decide +kernel|(simp;done)|(simp;omega)|fail) [c0,hk,hk2,skyAt,denV_fn,hA,wk k (by omega)]
 cases c1:spanOk n11[k].cur 20
 ·simp (disch:=first|omega|assumption|decide +kernel|(simp;done)|(simp;omega)|fail) [c0,c1,hk,hk2,skyAt,denV_fn,hA,wk k (by omega)]
 cases c2:areSkies n11.length n12[k]
 ·simp (disch:=first|omega|assumption|decide +kernel|(simp;done)|(simp;omega)|fail) [c0,c1,c2,hk,hk2,skyAt,denV_fn,hA,wk k (by omega)]
 simp (disch:=first|omega|assumption|decide +kernel|(simp;done)|(simp;omega)|fail) [c0,c1,c2,hk,hk2,skyAt,denV_fn,hA,wk k (by omega)]
theorem e_Check13p_l1(n0:Int)(n1:Int)(n2:Int)(n3:Int)(n4:List Sp)(n5:List Anc)(n6:List Wal)(n7:Int)(n8:Int)(n9:List Sp)(n10:List Boat)(n11:List Sky)(n12:List (List Int))(n13:List Int)(n14:List Sp)(s:Stk)(hl:n14.length<4611686018427387904):
 ∃g:Ab.Loc,Run T b85l1 [(78, .sl .no 2 (es cSp n14)),(79,i64 n14.length),(80,i64 0)] ([(16, .cell [i64 n0,i64 n1,i64 n2,i64 n3, .sl .no 2 (es cSp n4), .sl .no 2 (es cAnc n5), .sl .no 5 (es cWal n6),i64 n7,i64 n8, .sl .no 2 (es cSp n9), .sl .no 2 (es cBoat n10), .sl .no 4 (es cSky n11), .sl .no 1 (es cInts n12), .sl .no 1 (es cInt n13), .sl .no 2 (es cSp n14)])]::s)=if allB (spanOk · 2000) n14=true then some (.exit 2,[(78, .sl .no 2 (es cSp n14)),(79,i64 n14.length),(80,i64 n14.length),(81, .bool false)],([(16, .cell [i64 n0,i64 n1,i64 n2,i64 n3, .sl .no 2 (es cSp n4), .sl .no 2 (es cAnc n5), .sl .no 5 (es cWal n6),i64 n7,i64 n8, .sl .no 2 (es cSp n9), .sl .no 2 (es cBoat n10), .sl .no 4 (es cSky n11), .sl .no 1 (es cInts n12), .sl .no 1 (es cInt n13), .sl .no 2 (es cSp n14)])]::s))else some (.ret,[(2,i64 130)],(g::s)):=by
 refine loop_all_g n14 (spanOk · 2000) (fun k=>[(78, .sl .no 2 (es cSp n14)),(79,i64 n14.length),(80,i64 k)]) (fun _=>([(16, .cell [i64 n0,i64 n1,i64 n2,i64 n3, .sl .no 2 (es cSp n4), .sl .no 2 (es cAnc n5), .sl .no 5 (es cWal n6),i64 n7,i64 n8, .sl .no 2 (es cSp n9), .sl .no 2 (es cBoat n10), .sl .no 4 (es cSky n11), .sl .no 1 (es cInts n12), .sl .no 1 (es cInt n13), .sl .no 2 (es cSp n14)])]::s)) (fun g=>(.ret,[(2,i64 130)],(g::s))) _ (by simp) (by simp) ?_ (by simp) _ _ (by simp) (by simp)
 intro k hk
 cases h0:spanOk (n14[k]) 2000
 ·refine⟨[(16, .cell [i64 n0,i64 n1,i64 n2,i64 n3, .sl .no 2 (es cSp n4), .sl .no 2 (es cAnc n5), .sl .no 5 (es cWal n6),i64 n7,i64 n8, .sl .no 2 (es cSp n9), .sl .no 2 (es cBoat n10), .sl .no 4 (es cSky n11), .sl .no 1 (es cInts n12), .sl .no 1 (es cInt n13), .sl .no 2 (es cSp n14)]),(112, .cell (cSp n14[k]))],?_⟩
  simp (disch:=first|omega|assumption|decide +kernel|(simp;done)|(simp;omega)|fail) [hk,h0,wk k (by omega)]
 refine⟨[],?_⟩
 simp (disch:=first|omega|assumption|decide +kernel|(simp;done)|(simp;omega)|fail) [hk,h0,wk k (by omega)]
@[simp] theorem e_Check13p(n0:Int)(n1:Int)(n2:Int)(n3:Int)(n4:List Sp)(n5:List Anc)(n6:List Wal)(n7:Int)(n8:Int)(n9:List Sp)(n10:List Boat)(n11:List Sky)(n12:List (List Int))(n13:List Int)(n14:List Sp)(h4:n4.length<4611686018427387904)(h5:n5.length<4611686018427387904)(h6:n6.length<4611686018427387904)(h11:n11.length<4611686018427387904)(h13:n13.length<4611686018427387904)(h14:n14.length<4611686018427387904)(hf: ∀l∈n12,l.length<4611686018427387904)(lab s):
 den T 85 [.agg [i64 n0,i64 n1,i64 n2,i64 n3, .sl .no 2 (es cSp n4), .sl .no 2 (es cAnc n5), .sl .no 5 (es cWal n6),i64 n7,i64 n8, .sl .no 2 (es cSp n9), .sl .no 2 (es cBoat n10), .sl .no 4 (es cSky n11), .sl .no 1 (es cInts n12), .sl .no 1 (es cInt n13), .sl .no 2 (es cSp n14)]] lab s=some (i64 (if seasonOk (⟨⟨⟨n0,n1⟩,⟨n2,n3⟩,n4,n5,n6⟩,⟨⟨n7,n8⟩,n9,n10⟩,n11,n12,n13,n14⟩:Season)=true then 0 else 130),s):=by
 rw[den_fn t85 _ _ _ rfl]
 simp only[b85]
 have hA:=fun lab=>e_areSkiesp n13 h13 n11.length h11 s.length ([(16, .cell [i64 n0,i64 n1,i64 n2,i64 n3, .sl .no 2 (es cSp n4), .sl .no 2 (es cAnc n5), .sl .no 5 (es cWal n6),i64 n7,i64 n8, .sl .no 2 (es cSp n9), .sl .no 2 (es cBoat n10), .sl .no 4 (es cSky n11), .sl .no 1 (es cInts n12), .sl .no 1 (es cInt n13), .sl .no 2 (es cSp n14)])]::s) (by simp) _ _ _ _ _ _ _ _ _ _ _ _ _ _ (es cSky n11) 4 (by simp) ((sget_top _ _ _).trans rfl) lab
 by_cases hn:n12.length=n11.length
 ·obtain⟨g,hl0⟩:=e_Check13p_l0 n0 n1 n2 n3 n4 n5 n6 n7 n8 n9 n10 n11 n12 n13 n14 s h11 hn hf
  obtain⟨g',hl1⟩:=e_Check13p_l1 n0 n1 n2 n3 n4 n5 n6 n7 n8 n9 n10 n11 n12 n13 n14 s h14
  have hn':(n12.length:Int)=n11.length:=by omega
  cases c0:netOk ⟨⟨n0,n1⟩,⟨n2,n3⟩,n4,n5,n6⟩
  ·simp (disch:=first|omega|assumption|decide +kernel|(simp;done)|(simp;omega)|fail) [c0,seasonOk,denV_fn,hA,hl0,hl1,hn']
  cases c1:seaOk ⟨⟨n7,n8⟩,n9,n10⟩
  ·simp (disch:=first|omega|assumption|decide +kernel|(simp;done)|(simp;omega)|fail) [c0,c1,seasonOk,denV_fn,hA,hl0,hl1,hn']
  cases c2:wiB n11.length 1 4
  ·simp (disch:=first|omega|assumption|decide +kernel|(simp;done)|(simp;omega)|fail) [c0,c1,c2,seasonOk,denV_fn,hA,hl0,hl1,hn']
  by_cases c3:(5:Int)<n14.length
  ·have c3n:=c3
   try simp at c3n
   simp (disch:=first|omega|assumption|decide +kernel|(simp;done)|(simp;omega)|fail) [c0,c1,c2,c3,c3n,seasonOk,denV_fn,hA,hl0,hl1,hn']<;>omega
  have c3n:=c3
  try simp at c3n
  cases c4:areSkies n11.length n13
  ·simp (disch:=first|omega|assumption|decide +kernel|(simp;done)|(simp;omega)|fail) [c0,c1,c2,c3,c3n,c4,seasonOk,denV_fn,hA,hl0,hl1,hn']
  cases c5:allB (skyAt (⟨⟨⟨n0,n1⟩,⟨n2,n3⟩,n4,n5,n6⟩,⟨⟨n7,n8⟩,n9,n10⟩,n11,n12,n13,n14⟩:Season)) (List.range n11.length)
  ·simp (disch:=first|omega|assumption|decide +kernel|(simp;done)|(simp;omega)|fail) [c0,c1,c2,c3,c3n,c4,c5,seasonOk,denV_fn,hA,hl0,hl1,hn']
  cases c6:allB (spanOk · 2000) n14
  ·simp (disch:=first|omega|assumption|decide +kernel|(simp;done)|(simp;omega)|fail) [c0,c1,c2,c3,c3n,c4,c5,c6,seasonOk,denV_fn,hA,hl0,hl1,hn']
  simp (disch:=first|omega|assumption|decide +kernel|(simp;done)|(simp;omega)|fail) [c0,c1,c2,c3,c3n,c4,c5,c6,seasonOk,denV_fn,hA,hl0,hl1,hn']
 ·have hn': ¬(n12.length:Int)=n11.length:=by omega
  cases c0:netOk ⟨⟨n0,n1⟩,⟨n2,n3⟩,n4,n5,n6⟩
  ·simp (disch:=first|omega|assumption|decide +kernel|(simp;done)|(simp;omega)|fail) [c0,seasonOk,hn',hn]
  cases c1:seaOk ⟨⟨n7,n8⟩,n9,n10⟩
  ·simp (disch:=first|omega|assumption|decide +kernel|(simp;done)|(simp;omega)|fail) [c0,c1,seasonOk,hn',hn]
  cases c2:wiB n11.length 1 4
  ·simp (disch:=first|omega|assumption|decide +kernel|(simp;done)|(simp;omega)|fail) [c0,c1,c2,seasonOk,hn',hn]
  simp (disch:=first|omega|assumption|decide +kernel|(simp;done)|(simp;omega)|fail) [c0,c1,c2,seasonOk,hn',hn]
end Go.Proofs.YtoedpegjoccnlaaGreat.A

/-
  anchors.Safe.
-/
namespace Go.Proofs.YtoedpegjoccnlaaGreat.A
open Go.Ab
@[simp] theorem e_known(a b:Bool)(lab s):den T 104 [.bool a, .bool b] lab s=some (i64 (if a=true then 1 else if b=true then 3 else 2),s):=by
 rw[den_fn t104 _ _ _ rfl]
 simp only[b104]
 cases a<;>cases b<;>simp
theorem e_worst_l(n0:Int)(n1:Int)(n2:Int)(n3:Int)(n4:List Sp)(n5:List Anc)(n6:List Wal)(hl:n4.length≤3)(s:Stk):
 Run T b105l0 [(1, .ptr s.length 16 0),(2, .ptr s.length 32 0),(3, .ptr s.length 48 0),(14, .sl .no 2 (es cSp n4)),(15,i64 n4.length),(16,i64 0)]
  ([(16, .cell [i64 n0,i64 n1,i64 n2,i64 n3, .sl .no 2 (es cSp n4), .sl .no 2 (es cAnc n5), .sl .no 5 (es cWal n6)]),(32, .cell [i64 0,i64 0,i64 0,i64 0, .sl .full 2 [], .sl .full 2 [], .sl .full 5 [],i64 0,i64 0, .sl .full 1 []]),(48, .cell [i64 n1,i64 n3, .sl (.own s.length 52) 1 []]),(52, .tok 0)]::s)=
 some (.exit 0,[(1, .ptr s.length 16 0),(2, .ptr s.length 32 0),(3, .ptr s.length 48 0),(14, .sl .no 2 (es cSp n4)),(15,i64 n4.length),(16,i64 n4.length),(17, .bool false)],
  [(16, .cell [i64 n0,i64 n1,i64 n2,i64 n3, .sl .no 2 (es cSp n4), .sl .no 2 (es cAnc n5), .sl .no 5 (es cWal n6)]),(32, .cell [i64 0,i64 0,i64 0,i64 0, .sl .full 2 [], .sl .full 2 [], .sl .full 5 [],i64 0,i64 0, .sl .full 1 []]),(48, .cell [i64 n1,i64 n3, .sl (.own s.length 52) 1 (es cInt (n4.map (·.lo)))]),(52, .tok n4.length)]::s):=by
 have key:=loop_fold (T:=T) (live:=[1,2,3,14,15,16]) (keep:=[16,32,48,52]) (b:=d105l0) n4 (fun k (a:List Int)=>a.length=k) (fun a x=>a ++[x.lo]) (fun k _=>[(1, .ptr s.length 16 0),(2, .ptr s.length 32 0),(3, .ptr s.length 48 0),(14, .sl .no 2 (es cSp n4)),(15,i64 n4.length),(16,i64 k)])
  (fun k a=>[(16, .cell [i64 n0,i64 n1,i64 n2,i64 n3, .sl .no 2 (es cSp n4), .sl .no 2 (es cAnc n5), .sl .no 5 (es cWal n6)]),(32, .cell [i64 0,i64 0,i64 0,i64 0, .sl .full 2 [], .sl .full 2 [], .sl .full 5 [],i64 0,i64 0, .sl .full 1 []]),(48, .cell [i64 n1,i64 n3, .sl (.own s.length 52) 1 (es cInt a)]),(52, .tok k)]::s)
  (fun a=>(.exit 0,[(1, .ptr s.length 16 0),(2, .ptr s.length 32 0),(3, .ptr s.length 48 0),(14, .sl .no 2 (es cSp n4)),(15,i64 n4.length),(16,i64 n4.length),(17, .bool false)],
    [(16, .cell [i64 n0,i64 n1,i64 n2,i64 n3, .sl .no 2 (es cSp n4), .sl .no 2 (es cAnc n5), .sl .no 5 (es cWal n6)]),(32, .cell [i64 0,i64 0,i64 0,i64 0, .sl .full 2 [], .sl .full 2 [], .sl .full 5 [],i64 0,i64 0, .sl .full 1 []]),(48, .cell [i64 n1,i64 n3, .sl (.own s.length 52) 1 (es cInt a)]),(52, .tok n4.length)]::s))
  (by simp) ?_ ?_ ?_ [] (by simp) [(1, .ptr s.length 16 0),(2, .ptr s.length 32 0),(3, .ptr s.length 48 0),(14, .sl .no 2 (es cSp n4)),(15,i64 n4.length),(16,i64 0)]
   ([(16, .cell [i64 n0,i64 n1,i64 n2,i64 n3, .sl .no 2 (es cSp n4), .sl .no 2 (es cAnc n5), .sl .no 5 (es cWal n6)]),(32, .cell [i64 0,i64 0,i64 0,i64 0, .sl .full 2 [], .sl .full 2 [], .sl .full 5 [],i64 0,i64 0, .sl .full 1 []]),(48, .cell [i64 n1,i64 n3, .sl (.own s.length 52) 1 []]),(52, .tok 0)]::s) (by simp) (by simp)
 ·have e: ∀(l:List Sp) (a:List Int),l.foldl (fun a x=>a ++[x.lo]) a=a ++l.map (·.lo):=by
   intro l
   induction l with
   |nil=>simp
   |cons x r ih=>intro a;simp[ih]
  rw[e,List.nil_append]at key
  exact key
 ·intro k a hk hi
  subst hi
  simp (disch:=first|omega|assumption|decide +kernel|(simp;done)|(simp;omega)|fail) [hk,appK_own1,wk a.length (by omega)]
 ·intro k a hk hi
  simp[hi]
 ·intro a hi
  simp
@[simp] theorem e_worst(n0:Int)(n1:Int)(n2:Int)(n3:Int)(n4:List Sp)(n5:List Anc)(n6:List Wal)(hl:n4.length≤3)(lab s):den T 105 [.agg [i64 n0,i64 n1,i64 n2,i64 n3, .sl .no 2 (es cSp n4), .sl .no 2 (es cAnc n5), .sl .no 5 (es cWal n6)]] lab s=some (.agg [i64 n0,i64 n1,i64 n2,i64 n3, .sl .no 2 (es cSp n4), .sl .no 2 (es cAnc n5), .sl .no 5 (es cWal n6),i64 n1,i64 n3, .sl .no 1 (es cInt (n4.map (·.lo)))],s):=by
 rw[den_fn t105 _ _ _ rfl]
 simp only[b105]
 have h:=e_worst_l n0 n1 n2 n3 n4 n5 n6 hl s
 simp (disch:=first|omega|assumption|decide +kernel|(simp;done)|(simp;omega)|fail) [h]
theorem e_best_l(n0:Int)(n1:Int)(n2:Int)(n3:Int)(n4:List Sp)(n5:List Anc)(n6:List Wal)(hl:n4.length≤3)(s:Stk):
 Run T b107l0 [(1, .ptr s.length 16 0),(2, .ptr s.length 32 0),(3, .ptr s.length 48 0),(14, .sl .no 2 (es cSp n4)),(15,i64 n4.length),(16,i64 0)]
  ([(16, .cell [i64 n0,i64 n1,i64 n2,i64 n3, .sl .no 2 (es cSp n4), .sl .no 2 (es cAnc n5), .sl .no 5 (es cWal n6)]),(32, .cell [i64 0,i64 0,i64 0,i64 0, .sl .full 2 [], .sl .full 2 [], .sl .full 5 [],i64 0,i64 0, .sl .full 1 []]),(48, .cell [i64 n0,i64 n2, .sl (.own s.length 52) 1 []]),(52, .tok 0)]::s)=
 some (.exit 0,[(1, .ptr s.length 16 0),(2, .ptr s.length 32 0),(3, .ptr s.length 48 0),(14, .sl .no 2 (es cSp n4)),(15,i64 n4.length),(16,i64 n4.length),(17, .bool false)],
  [(16, .cell [i64 n0,i64 n1,i64 n2,i64 n3, .sl .no 2 (es cSp n4), .sl .no 2 (es cAnc n5), .sl .no 5 (es cWal n6)]),(32, .cell [i64 0,i64 0,i64 0,i64 0, .sl .full 2 [], .sl .full 2 [], .sl .full 5 [],i64 0,i64 0, .sl .full 1 []]),(48, .cell [i64 n0,i64 n2, .sl (.own s.length 52) 1 (es cInt (n4.map (·.hi)))]),(52, .tok n4.length)]::s):=by
 have key:=loop_fold (T:=T) (live:=[1,2,3,14,15,16]) (keep:=[16,32,48,52]) (b:=d107l0) n4 (fun k (a:List Int)=>a.length=k) (fun a x=>a ++[x.hi]) (fun k _=>[(1, .ptr s.length 16 0),(2, .ptr s.length 32 0),(3, .ptr s.length 48 0),(14, .sl .no 2 (es cSp n4)),(15,i64 n4.length),(16,i64 k)])
  (fun k a=>[(16, .cell [i64 n0,i64 n1,i64 n2,i64 n3, .sl .no 2 (es cSp n4), .sl .no 2 (es cAnc n5), .sl .no 5 (es cWal n6)]),(32, .cell [i64 0,i64 0,i64 0,i64 0, .sl .full 2 [], .sl .full 2 [], .sl .full 5 [],i64 0,i64 0, .sl .full 1 []]),(48, .cell [i64 n0,i64 n2, .sl (.own s.length 52) 1 (es cInt a)]),(52, .tok k)]::s)
  (fun a=>(.exit 0,[(1, .ptr s.length 16 0),(2, .ptr s.length 32 0),(3, .ptr s.length 48 0),(14, .sl .no 2 (es cSp n4)),(15,i64 n4.length),(16,i64 n4.length),(17, .bool false)],
    [(16, .cell [i64 n0,i64 n1,i64 n2,i64 n3, .sl .no 2 (es cSp n4), .sl .no 2 (es cAnc n5), .sl .no 5 (es cWal n6)]),(32, .cell [i64 0,i64 0,i64 0,i64 0, .sl .full 2 [], .sl .full 2 [], .sl .full 5 [],i64 0,i64 0, .sl .full 1 []]),(48, .cell [i64 n0,i64 n2, .sl (.own s.length 52) 1 (es cInt a)]),(52, .tok n4.length)]::s))
  (by simp) ?_ ?_ ?_ [] (by simp) [(1, .ptr s.length 16 0),(2, .ptr s.length 32 0),(3, .ptr s.length 48 0),(14, .sl .no 2 (es cSp n4)),(15,i64 n4.length),(16,i64 0)]
   ([(16, .cell [i64 n0,i64 n1,i64 n2,i64 n3, .sl .no 2 (es cSp n4), .sl .no 2 (es cAnc n5), .sl .no 5 (es cWal n6)]),(32, .cell [i64 0,i64 0,i64 0,i64 0, .sl .full 2 [], .sl .full 2 [], .sl .full 5 [],i64 0,i64 0, .sl .full 1 []]),(48, .cell [i64 n0,i64 n2, .sl (.own s.length 52) 1 []]),(52, .tok 0)]::s) (by simp) (by simp)
 ·have e: ∀(l:List Sp) (a:List Int),l.foldl (fun a x=>a ++[x.hi]) a=a ++l.map (·.hi):=by
   intro l
   induction l with
   |nil=>simp
   |cons x r ih=>intro a;simp[ih]
  rw[e,List.nil_append]at key
  exact key
 ·intro k a hk hi
  subst hi
  simp (disch:=first|omega|assumption|decide +kernel|(simp;done)|(simp;omega)|fail) [hk,appK_own1,wk a.length (by omega)]
 ·intro k a hk hi
  simp[hi]
 ·intro a hi
  simp
@[simp] theorem e_best(n0:Int)(n1:Int)(n2:Int)(n3:Int)(n4:List Sp)(n5:List Anc)(n6:List Wal)(hl:n4.length≤3)(lab s):den T 107 [.agg [i64 n0,i64 n1,i64 n2,i64 n3, .sl .no 2 (es cSp n4), .sl .no 2 (es cAnc n5), .sl .no 5 (es cWal n6)]] lab s=some (.agg [i64 n0,i64 n1,i64 n2,i64 n3, .sl .no 2 (es cSp n4), .sl .no 2 (es cAnc n5), .sl .no 5 (es cWal n6),i64 n0,i64 n2, .sl .no 1 (es cInt (n4.map (·.hi)))],s):=by
 rw[den_fn t107 _ _ _ rfl]
 simp only[b107]
 have h:=e_best_l n0 n1 n2 n3 n4 n5 n6 hl s
 simp (disch:=first|omega|assumption|decide +kernel|(simp;done)|(simp;omega)|fail) [h]
@[simp] theorem e_has0(o:Int)(ho:0≤o)(lab s):den T 134 [.int .u64 0,i64 o] lab s=some (.bool false,s):=by
 have e:bin .and (.int .u64 0) (.int .u64 1)=some (.int .u64 0):=rfl
 have h: ¬o<0:=by omega
 rw[den_fn t134 _ _ _ rfl]
 simp only[b134]
 simp[-bin_and,e,h]
def orBit(a:Int)(k:Nat):Int:=IntKind.u64.wrap (BitVec.ofInt 64 a|||BitVec.ofInt 64 (IntKind.u64.wrap (1*2^min k 64))).toNat
theorem e_with(a:Int)(k:Nat)(lab s):den T 136 [.int .u64 a,i64 k] lab s=some (.int .u64 (orBit a k),s):=by
 have h: ¬(k:Int)<0:=by omega
 have hb:IntKind.u64.bits=64:=rfl
 rw[den_fn t136 _ _ _ rfl]
 simp only[b136]
 simp[h,orBit,hb]
theorem orBit_ne(a:Int)(k:Nat)(hk:k<64):orBit a k≠0:=by
 unfold orBit
 generalize hx:BitVec.ofInt 64 a=x
 have hp:(2:Int)^min k 64=((2^k:Nat):Int):=by rw[Nat.min_eq_left (by omega)];norm_cast
 have hlt:2^k<2^64:=Nat.pow_lt_pow_right (by omega) hk
 have hw:IntKind.u64.wrap (1*2^min k 64)=((2^k:Nat):Int):=by
  rw[hp,Int.one_mul]
  have h18:(2:Nat)^64=18446744073709551616:=by decide
  generalize 2^k=q at hlt⊢
  exact IntWalk.u64_in _ ⟨by omega,by omega⟩
 rw[hw]
 generalize hy:BitVec.ofInt 64 ((2^k:Nat):Int)=y
 have hy0:y≠0#64:=by
  rw[←hy]
  intro h
  have:=congrArg BitVec.toNat h
  simp only[BitVec.ofInt_natCast,BitVec.toNat_ofNat,BitVec.toNat_zero]at this
  rw[Nat.mod_eq_of_lt hlt]at this
  have:=Nat.two_pow_pos k
  omega
 have hz:x|||y≠0#64:=fun h=>hy0 (BitVec.or_eq_zero_iff.1 h).2
 have hn:(x|||y).toNat≠0:=fun h=>hz (BitVec.eq_of_toNat_eq (by simpa using h))
 have h64:=(x|||y).isLt
 have h2:(2:Nat)^64=18446744073709551616:=by decide
 rw[IntWalk.u64_in _ ⟨by omega,by omega⟩]
 omega
def loadW(w:Wal)(wind cur:Int):Int:=w.sail*wind+w.drag*cur
def sideS(l:List Wal)(w c a:Int):Int:=if 0≤a then(match l[a.toNat]? with|some x=>loadW x w c|none=>0)else 0
theorem walOk_iff {w:Wal}:walOk w=true↔(0≤w.sail∧w.sail≤9)∧(0≤w.drag∧w.drag≤9)∧(0≤w.lean∧w.lean≤9)∧(0≤w.corks∧w.corks≤99)∧(0≤w.stones∧w.stones≤99):=by
 simp only[walOk,Bool.and_eq_true,within_iff,and_assoc]
theorem loadW_bound {x:Wal} {w c:Int}(hx:walOk x=true)(hw:0≤w∧w≤20)(hc:0≤c∧c≤20):(0≤x.sail*w∧x.sail*w≤180)∧(0≤x.drag*c∧x.drag*c≤180):=by
 obtain⟨h1,h2,_⟩:=walOk_iff.1 hx
 exact⟨mulb h1.1 h1.2 hw.1 hw.2,mulb h2.1 h2.2 hc.1 hc.2⟩
theorem e_load(x:Wal)(w c:Int)(hx:walOk x=true)(hw:0≤w∧w≤20)(hc:0≤c∧c≤20)(lab s):den T 168 [.agg [i64 x.sail,i64 x.drag,i64 x.lean,i64 x.corks,i64 x.stones],i64 w,i64 c] lab s=some (i64 (loadW x w c),s):=by
 obtain⟨h1,h2⟩:=loadW_bound hx hw hc
 rw[den_fn t168 _ _ _ rfl]
 simp only[b168]
 simp (disch:=first|omega|assumption|decide +kernel|(simp;done)|(simp;omega)|fail) [wi,loadW]
theorem e_side(n0:Int)(n1:Int)(n2:Int)(n3:Int)(n4:List Sp)(n5:List Anc)(n6:List Wal)(G:List (List V))(w c a o m:Int)(hwal: ∀x∈n6,walOk x=true)(hlen:n6.length≤6)(hw:0≤w∧w≤20)(hc:0≤c∧c≤20)(ho:0≤a→0≤o)(hm:0≤m∧m≤1000)(lab s):
 den T 167 [i64 a,i64 o, .ptr s.length 48 0, .ptr s.length 80 0, .ptr s.length 112 0] lab ([(48, .cell [i64 n0,i64 n1,i64 n2,i64 n3, .sl .no 2 (es cSp n4), .sl .no 2 (es cAnc n5), .sl .no 5 (es cWal n6),i64 w,i64 c, .sl .no 1 G]),(80, .cell [.int .u64 0]),(112, .cell [i64 m])]::s)=
  some (.tup [],[(48, .cell [i64 n0,i64 n1,i64 n2,i64 n3, .sl .no 2 (es cSp n4), .sl .no 2 (es cAnc n5), .sl .no 5 (es cWal n6),i64 w,i64 c, .sl .no 1 G]),(80, .cell [.int .u64 0]),(112, .cell [i64 (m+sideS n6 w c a)])]::s):=by
 rw[den_fn t167 _ _ _ rfl]
 simp only[b167]
 by_cases h1:a<0
 ·have h2: ¬0≤a:=by omega
  simp (disch:=first|omega|assumption|decide +kernel|(simp;done)|(simp;omega)|fail) [h1,h2,sideS]
 by_cases h2:(n6.length:Int)≤a
 ·have h3:n6[a.toNat]? =none:=List.getElem?_eq_none (by omega)
  simp (disch:=first|omega|assumption|decide +kernel|(simp;done)|(simp;omega)|fail) [h1,h2,h3,sideS]
 have h3:0≤a:=by omega
 have h4:a.toNat<n6.length:=by omega
 have hx:=hwal n6[a.toNat] (List.getElem_mem h4)
 have hb:=loadW_bound hx hw hc
 have ho':=ho h3
 have hl:=fun lab s=>e_load n6[a.toNat] w c hx hw hc lab s
 have hs:sideS n6 w c a=loadW n6[a.toNat] w c:=by simp[sideS,h3,h4]
 have hb2:0≤loadW n6[a.toNat] w c∧loadW n6[a.toNat] w c≤360:=by unfold loadW;omega
 rw[hs]
 simp (disch:=first|omega|assumption|decide +kernel|(simp;done)|(simp;omega)|fail) [h1,h2,h3,h4,hl,wi]
def bearsS(l:List Wal)(w c a:Int):Int:=sideS l w c (a-1)+sideS l w c a
theorem sideS_bound {l:List Wal} {w c:Int}(hwal: ∀x∈l,walOk x=true)(hw:0≤w∧w≤20)(hc:0≤c∧c≤20)(a:Int):0≤sideS l w c a∧sideS l w c a≤360:=by
 unfold sideS
 split
 ·split
  ·rename_i x hx
   have:=loadW_bound (hwal x (List.mem_of_getElem? hx)) hw hc
   unfold loadW;omega
  ·omega
 ·omega
theorem e_bears(n0:Int)(n1:Int)(n2:Int)(n3:Int)(n4:List Sp)(n5:List Anc)(n6:List Wal)(G:List (List V))(w c:Int)(k:Nat)(hk:k<100)(hwal: ∀x∈n6,walOk x=true)(hlen:n6.length≤6)(hw:0≤w∧w≤20)(hc:0≤c∧c≤20)(lab s):
 den T 153 [.agg [i64 n0,i64 n1,i64 n2,i64 n3, .sl .no 2 (es cSp n4), .sl .no 2 (es cAnc n5), .sl .no 5 (es cWal n6),i64 w,i64 c, .sl .no 1 G],i64 k, .int .u64 0] lab s=some (i64 (bearsS n6 w c k),s):=by
 rw[den_fn t153 _ _ _ rfl]
 simp only[b153]
 have b1:=sideS_bound hwal hw hc ((k:Int)-1)
 have h1:=fun lab=>e_side n0 n1 n2 n3 n4 n5 n6 G w c ((k:Int)-1) ((k:Int)-1) 0 hwal hlen hw hc (by omega) (by omega) lab s
 have h2:=fun lab=>e_side n0 n1 n2 n3 n4 n5 n6 G w c k ((k:Int)+1) (sideS n6 w c ((k:Int)-1)) hwal hlen hw hc (by omega) (by omega) lab s
 simp only[Int.zero_add]at h1
 simp (disch:=first|omega|assumption|decide +kernel|(simp;done)|(simp;omega)|fail) [wi,denV_fn,h1,h2,bearsS]
def spareS(n:Net)(w c:Int)(g:List Int)(k:Nat):Int:=match n.anch[k]? with
 |some a=>2*a.weight*g.getD a.bottom.toNat 0-bearsS n.walls w c k
 |none=>0
theorem ancOk_iff {g:Int} {a:Anc}:ancOk g a=true↔(0≤a.weight∧a.weight≤20)∧0≤a.bottom∧a.bottom≤g-1:=by
 simp only[ancOk,Bool.and_eq_true,within_iff]
theorem e_spare(n0:Int)(n1:Int)(n2:Int)(n3:Int)(n4:List Sp)(n5:List Anc)(n6:List Wal)(G:List Int)(w c:Int)(k:Nat)(hk:k<n5.length)(ha: ∀x∈n5,ancOk G.length x=true)(hG: ∀x∈G,0≤x∧x≤9)(hwal: ∀x∈n6,walOk x=true)(hlen:n6.length≤6)(hlen5:n5.length≤6)(hw:0≤w∧w≤20)(hc:0≤c∧c≤20)(lab s):
 den T 135 [.agg [i64 n0,i64 n1,i64 n2,i64 n3, .sl .no 2 (es cSp n4), .sl .no 2 (es cAnc n5), .sl .no 5 (es cWal n6),i64 w,i64 c, .sl .no 1 (es cInt G)],i64 k, .int .u64 0] lab s=some (i64 (spareS (⟨⟨n0,n1⟩,⟨n2,n3⟩,n4,n5,n6⟩:Net) w c G k),s):=by
 rw[den_fn t135 _ _ _ rfl]
 simp only[b135]
 obtain⟨h1,h2,h3⟩:=ancOk_iff.1 (ha n5[k] (List.getElem_mem hk))
 have hb:n5[k].bottom.toNat<G.length:=by omega
 have hg:=hG G[n5[k].bottom.toNat] (List.getElem_mem hb)
 have b1:=sideS_bound hwal hw hc ((k:Int)-1)
 have b2:=sideS_bound hwal hw hc (k:Int)
 have b3:0≤bearsS n6 w c k∧bearsS n6 w c k≤720:=by unfold bearsS;omega
 have h5:=fun lab s=>e_bears n0 n1 n2 n3 n4 n5 n6 (es cInt G) w c k (by omega) hwal hlen hw hc lab s
 have m1:=mulb (a:=2*n5[k].weight) (A:=40) (w:=G[n5[k].bottom.toNat]) (W:=9) (by omega) (by omega) hg.1 hg.2
 simp (disch:=first|omega|assumption|decide +kernel|(simp;done)|(simp;omega)|fail) [wi,hk,hb,h1,h2,h3,h5,spareS]
end Go.Proofs.YtoedpegjoccnlaaGreat.A

/-
  anchors.Safe: the answer.
-/
namespace Go.Proofs.YtoedpegjoccnlaaGreat.A
open Go.Ab
def stepS(n:Net)(w c:Int)(g:List Int)(a:Int)(k:Nat):Int:=if spareS n w c g k<0 then orBit a k else a
def quiet(n:Net)(w c:Int)(g:List Int):Bool:=allB (fun k=>decide (0≤spareS n w c g k)) (List.range n.anch.length)
theorem stepS_zero(n:Net)(w c:Int)(g:List Int): ∀(l:List Nat),(∀k∈l,k<64)→ ∀a,(l.foldl (stepS n w c g) a=0↔a=0∧allB (fun k=>decide (0≤spareS n w c g k)) l=true)
 |[],_,a=>by simp[allB]
 |k::r,h,a=>by
   rw[List.foldl_cons,stepS_zero n w c g r (fun k hk=>h k (by simp[hk]))]
   unfold stepS
   split
   ·rename_i hs
    have h1:=orBit_ne a k (h k (by simp))
    simp[h1,allB,hs]
    intro _ h;omega
   ·rename_i hs
    simp[allB,Int.not_lt.1 hs]
theorem e_step(n0:Int)(n1:Int)(n2:Int)(n3:Int)(n4:List Sp)(n5:List Anc)(n6:List Wal)(G:List Int)(w c:Int)(ha: ∀x∈n5,ancOk G.length x=true)(hG: ∀x∈G,0≤x∧x≤9)(hwal: ∀x∈n6,walOk x=true)(hlen:n6.length≤6)(hlen5:n5.length≤6)(hw:0≤w∧w≤20)(hc:0≤c∧c≤20)(lab s):
 den T 106 [.agg [i64 n0,i64 n1,i64 n2,i64 n3, .sl .no 2 (es cSp n4), .sl .no 2 (es cAnc n5), .sl .no 5 (es cWal n6),i64 w,i64 c, .sl .no 1 (es cInt G)], .int .u64 0] lab s=some (.int .u64 ((List.range n5.length).foldl (stepS (⟨⟨n0,n1⟩,⟨n2,n3⟩,n4,n5,n6⟩:Net) w c G) 0),s):=by
 rw[den_fn t106 _ _ _ rfl]
 simp only[b106]
 have key:=loop_fold (T:=T) (live:=[1,2,5,11,12]) (keep:=[32]) (b:=d106l0) (List.range n5.length) (fun _ _=>True) (stepS (⟨⟨n0,n1⟩,⟨n2,n3⟩,n4,n5,n6⟩:Net) w c G)
  (fun k a=>[(1, .int .u64 0),(2, .ptr s.length 32 0),(5, .int .u64 a),(11,i64 n5.length),(12,i64 k)]) (fun _ _=>[(32, .cell [i64 n0,i64 n1,i64 n2,i64 n3, .sl .no 2 (es cSp n4), .sl .no 2 (es cAnc n5), .sl .no 5 (es cWal n6),i64 w,i64 c, .sl .no 1 (es cInt G)])]::s)
  (fun a=>(.exit 0,[(1, .int .u64 0),(2, .ptr s.length 32 0),(5, .int .u64 a),(11,i64 n5.length),(12,i64 n5.length),(13, .bool false)],[(32, .cell [i64 n0,i64 n1,i64 n2,i64 n3, .sl .no 2 (es cSp n4), .sl .no 2 (es cAnc n5), .sl .no 5 (es cWal n6),i64 w,i64 c, .sl .no 1 (es cInt G)])]::s))
  (by simp) ?_ ?_ ?_ 0 trivial [(1, .int .u64 0),(2, .ptr s.length 32 0),(5, .int .u64 0),(11,i64 n5.length),(12,i64 0)] ([(32, .cell [i64 n0,i64 n1,i64 n2,i64 n3, .sl .no 2 (es cSp n4), .sl .no 2 (es cAnc n5), .sl .no 5 (es cWal n6),i64 w,i64 c, .sl .no 1 (es cInt G)])]::s) (by simp) (by simp)
 ·change Run T b106l0 _ _=_ at key
  simp (disch:=first|omega|assumption|decide +kernel|(simp;done)|(simp;omega)|fail) [key]
 ·intro k a hk _
  simp only[List.length_range]at hk
  simp only[List.getElem_range]
  have h1:=fun lab s=>e_spare n0 n1 n2 n3 n4 n5 n6 G w c k hk ha hG hwal hlen hlen5 hw hc lab s
  have h2:=fun lab s=>e_with a k lab s
  by_cases c0:spareS (⟨⟨n0,n1⟩,⟨n2,n3⟩,n4,n5,n6⟩:Net) w c G k<0
  ·have c1:stepS (⟨⟨n0,n1⟩,⟨n2,n3⟩,n4,n5,n6⟩:Net) w c G a k=orBit a k:=by simp[stepS,c0]
   simp (disch:=first|omega|assumption|decide +kernel|(simp;done)|(simp;omega)|fail) [hk,h1,h2,c0,c1,wk k (by omega)]
  ·have c1:stepS (⟨⟨n0,n1⟩,⟨n2,n3⟩,n4,n5,n6⟩:Net) w c G a k=a:=by simp[stepS,c0]
   simp (disch:=first|omega|assumption|decide +kernel|(simp;done)|(simp;omega)|fail) [hk,h1,h2,c0,c1,wk k (by omega)]
 ·intros;trivial
 ·intro a _
  simp
def safeS(n:Net):Int:=if netOk n=true then(if quiet n n.wind.hi n.cur.hi (n.grips.map (·.lo))=true then 1 else if quiet n n.wind.lo n.cur.lo (n.grips.map (·.hi))=true then 3 else 2)else 0
@[simp] theorem e_Safe(n0:Int)(n1:Int)(n2:Int)(n3:Int)(n4:List Sp)(n5:List Anc)(n6:List Wal)(h4:n4.length<4611686018427387904)(h5:n5.length<4611686018427387904)(h6:n6.length<4611686018427387904)(lab s):
 den T 86 [.agg [i64 n0,i64 n1,i64 n2,i64 n3, .sl .no 2 (es cSp n4), .sl .no 2 (es cAnc n5), .sl .no 5 (es cWal n6)]] lab s=some (.tup [i64 (safeS (⟨⟨n0,n1⟩,⟨n2,n3⟩,n4,n5,n6⟩:Net)),i64 (if netOk (⟨⟨n0,n1⟩,⟨n2,n3⟩,n4,n5,n6⟩:Net)=true then 0 else 20)],s):=by
 rw[den_fn t86 _ _ _ rfl]
 simp only[b86]
 cases h:netOk (⟨⟨n0,n1⟩,⟨n2,n3⟩,n4,n5,n6⟩:Net)
 ·simp (disch:=first|omega|assumption|decide +kernel|(simp;done)|(simp;omega)|fail) [h,safeS]
 obtain⟨a1,a2,a3,a4,a5,a6,a7,a8⟩:=netOk_iff.1 h
 have b1:=spanOk_iff.1 a1
 have b2:=spanOk_iff.1 a2
 simp only at a1 a2 a3 a4 a5 a6 a7 a8 b1 b2
 rw[allB_iff]at a6 a7 a8
 have g1:=fun lab s=>e_step n0 n1 n2 n3 n4 n5 n6 (n4.map (·.lo)) n1 n3 (by simpa using a7) (by
  intro x hx
  obtain⟨y,hy,rfl⟩:=List.mem_map.1 hx
  have:=spanOk_iff.1 (a6 y hy);omega) a8 (by omega) a4 (by omega) (by omega) lab s
 have g2:=fun lab s=>e_step n0 n1 n2 n3 n4 n5 n6 (n4.map (·.hi)) n0 n2 (by simpa using a7) (by
  intro x hx
  obtain⟨y,hy,rfl⟩:=List.mem_map.1 hx
  have:=spanOk_iff.1 (a6 y hy);omega) a8 (by omega) a4 (by omega) (by omega) lab s
 have z1:=stepS_zero (⟨⟨n0,n1⟩,⟨n2,n3⟩,n4,n5,n6⟩:Net) n1 n3 (n4.map (·.lo)) (List.range n5.length) (fun k hk=>by have:=List.mem_range.1 hk;omega) 0
 have z2:=stepS_zero (⟨⟨n0,n1⟩,⟨n2,n3⟩,n4,n5,n6⟩:Net) n0 n2 (n4.map (·.hi)) (List.range n5.length) (fun k hk=>by have:=List.mem_range.1 hk;omega) 0
 simp only[true_and]at z1 z2
 simp (disch:=first|omega|assumption|decide +kernel|(simp;done)|(simp;omega)|fail) [h,a3,g1,g2,safeS]
 by_cases x1:quiet (⟨⟨n0,n1⟩,⟨n2,n3⟩,n4,n5,n6⟩:Net) n1 n3 (n4.map (·.lo))=true
 ·simp[x1,z1.2 x1]
 ·have y1:=mt z1.1 x1
  by_cases x2:quiet (⟨⟨n0,n1⟩,⟨n2,n3⟩,n4,n5,n6⟩:Net) n0 n2 (n4.map (·.hi))=true
  ·simp[x1,x2,y1,z2.2 x2]
  ·have y2:=mt z2.1 x2
   simp[x1,x2,y1,y2]
end Go.Proofs.YtoedpegjoccnlaaGreat.A

/-
  lifts.open, need, holds.
-/
namespace Go.Proofs.YtoedpegjoccnlaaGreat.A
open Go.Ab
def partS(n:Sea)(i:Nat):Sp:=match n.places[i]? with
 |some p=>⟨max p.lo (12-(highSum n.places-p.hi)),min p.hi (12-(lowSum n.places-p.lo))⟩
 |none=>⟨0,0⟩
def partK(n:Sea)(k i:Nat):Sp:=if i<k then partS n i else⟨0,0⟩
def seaCellK(n:Sea)(k:Nat):List V:=[i64 n.weight.lo,i64 n.weight.hi, .sl .no 2 (es cSp n.places), .sl .no 2 (es cBoat n.boats),i64 (partK n k 0).lo,i64 (partK n k 0).hi,i64 (partK n k 1).lo,i64 (partK n k 1).hi,i64 (partK n k 2).lo,i64 (partK n k 2).hi,i64 (partK n k 3).lo,i64 (partK n k 3).hi]
def seaCell(n:Sea):List V:=[i64 n.weight.lo,i64 n.weight.hi, .sl .no 2 (es cSp n.places), .sl .no 2 (es cBoat n.boats),i64 (partS n 0).lo,i64 (partS n 0).hi,i64 (partS n 1).lo,i64 (partS n 1).hi,i64 (partS n 2).lo,i64 (partS n 2).hi,i64 (partS n 3).lo,i64 (partS n 3).hi]
theorem seaCell_all(n:Sea)(h:n.places.length≤4):seaCellK n n.places.length=seaCell n:=by
 have key: ∀i,partK n n.places.length i=partS n i:=by
  intro i
  unfold partK
  split
  ·rfl
  ·simp[partS,List.getElem?_eq_none (show n.places.length≤i by omega)]
 simp only[seaCellK,seaCell,key]
theorem sums_bound {l:List Sp}(h: ∀x∈l,spanOk x 12=true):0≤lowSum l∧lowSum l≤12*l.length∧0≤highSum l∧highSum l≤12*l.length:=by
 induction l with
 |nil=>simp[lowSum,highSum]
 |cons x r ih=>
   have h1:=ih fun y hy=>h y (by simp[hy])
   have h2:=spanOk_iff.1 (h x (by simp))
   simp only[lowSum,highSum,List.map_cons,List.sum_cons,List.length_cons]at h1⊢
   omega
theorem e_open05_l0(n0:Int)(n1:Int)(n2:List Sp)(n3:List Boat)(s:Stk)(hl:n2.length≤4)(hp: ∀x∈n2,spanOk x 12=true):
 Run T b65l0 [(2, .ptr s.length 32 0),(7, .ptr s.length 368 0),(8,i64 0),(9,i64 0),(25, .sl .no 2 (es cSp n2)),(26,i64 n2.length),(27,i64 0)] ([(32, .cell [i64 n0,i64 n1, .sl .no 2 (es cSp n2), .sl .no 2 (es cBoat n3)]),(368, .cell [i64 n0,i64 n1, .sl .no 2 (es cSp n2), .sl .no 2 (es cBoat n3),i64 0,i64 0,i64 0,i64 0,i64 0,i64 0,i64 0,i64 0])]::s)=
  some (.exit 0,[(2, .ptr s.length 32 0),(7, .ptr s.length 368 0),(8,i64 (lowSum n2)),(9,i64 (highSum n2)),(25, .sl .no 2 (es cSp n2)),(26,i64 n2.length),(27,i64 n2.length),(28, .bool false)],[(32, .cell [i64 n0,i64 n1, .sl .no 2 (es cSp n2), .sl .no 2 (es cBoat n3)]),(368, .cell [i64 n0,i64 n1, .sl .no 2 (es cSp n2), .sl .no 2 (es cBoat n3),i64 0,i64 0,i64 0,i64 0,i64 0,i64 0,i64 0,i64 0])]::s):=by
 have key:=loop_fold (T:=T) (live:=[2,7,8,9,25,26,27]) (keep:=[32,208,240,368]) (b:=d65l0) n2 (fun k (a:Int×Int)=>0≤a.1∧a.1≤12*k∧0≤a.2∧a.2≤12*k) (fun a x=>(a.1+x.lo,a.2+x.hi))
  (fun k a=>[(2, .ptr s.length 32 0),(7, .ptr s.length 368 0),(8,i64 a.1),(9,i64 a.2),(25, .sl .no 2 (es cSp n2)),(26,i64 n2.length),(27,i64 k)]) (fun _ _=>[(32, .cell [i64 n0,i64 n1, .sl .no 2 (es cSp n2), .sl .no 2 (es cBoat n3)]),(368, .cell [i64 n0,i64 n1, .sl .no 2 (es cSp n2), .sl .no 2 (es cBoat n3),i64 0,i64 0,i64 0,i64 0,i64 0,i64 0,i64 0,i64 0])]::s)
  (fun a=>(.exit 0,[(2, .ptr s.length 32 0),(7, .ptr s.length 368 0),(8,i64 a.1),(9,i64 a.2),(25, .sl .no 2 (es cSp n2)),(26,i64 n2.length),(27,i64 n2.length),(28, .bool false)],[(32, .cell [i64 n0,i64 n1, .sl .no 2 (es cSp n2), .sl .no 2 (es cBoat n3)]),(368, .cell [i64 n0,i64 n1, .sl .no 2 (es cSp n2), .sl .no 2 (es cBoat n3),i64 0,i64 0,i64 0,i64 0,i64 0,i64 0,i64 0,i64 0])]::s))
  (by simp) ?_ ?_ ?_ (0,0) (by simp) [(2, .ptr s.length 32 0),(7, .ptr s.length 368 0),(8,i64 0),(9,i64 0),(25, .sl .no 2 (es cSp n2)),(26,i64 n2.length),(27,i64 0)] ([(32, .cell [i64 n0,i64 n1, .sl .no 2 (es cSp n2), .sl .no 2 (es cBoat n3)]),(368, .cell [i64 n0,i64 n1, .sl .no 2 (es cSp n2), .sl .no 2 (es cBoat n3),i64 0,i64 0,i64 0,i64 0,i64 0,i64 0,i64 0,i64 0])]::s) (by simp) (by simp)
 ·have e: ∀(l:List Sp) (a:Int×Int),l.foldl (fun a x=>(a.1+x.lo,a.2+x.hi)) a=(a.1+lowSum l,a.2+highSum l):=by
   intro l
   induction l with
   |nil=>intro a;simp[lowSum,highSum]
   |cons x r ih=>intro a;simp[ih,lowSum,highSum,Int.add_assoc]
  rw[e]at key
  simp only[Int.zero_add]at key
  exact key
 ·intro k a hk hi
  have h1:=spanOk_iff.1 (hp n2[k] (List.getElem_mem hk))
  simp (disch:=first|omega|assumption|decide +kernel|(simp;done)|(simp;omega)|fail) [hk,wk k (by omega),wi]
 ·intro k a hk hi
  have h1:=spanOk_iff.1 (hp n2[k] (List.getElem_mem hk))
  simp only;omega
 ·intro a hi
  simp
theorem part_bound {n:Sea}(h:seaOk n=true)(i:Nat):0≤(partS n i).lo∧(partS n i).lo≤12∧0≤(partS n i).hi∧(partS n i).hi≤12:=by
 obtain⟨⟨⟨⟨⟨⟨h1,h2⟩,h3⟩,h4⟩,h5⟩,h6⟩,h7⟩:((((((spanOk n.weight 2000=true∧(n.places.length:Int)≤4)∧(n.boats.length:Int)≤6)∧allB (spanOk · 12) n.places=true)∧allB boatOk n.boats=true)∧lowSum n.places≤12)∧12≤highSum n.places):=by simpa only[seaOk,Bool.and_eq_true,decide_eq_true_eq]using h
 unfold partS
 split
 ·rename_i p hp
  have:=spanOk_iff.1 (allB_iff.1 h4 p (List.mem_of_getElem? hp))
  simp only;omega
 ·simp
theorem seaOk_iff {n:Sea}:seaOk n=true↔spanOk n.weight 2000=true∧n.places.length≤4∧n.boats.length≤6∧(∀x∈n.places,spanOk x 12=true)∧(∀x∈n.boats,boatOk x=true)∧lowSum n.places≤12∧12≤highSum n.places:=by
 simp only[seaOk,Bool.and_eq_true,decide_eq_true_eq,allB_iff,and_assoc]
 constructor
 ·rintro⟨h1,h2,h3,h4⟩;exact⟨h1,by omega,by omega,h4⟩
 ·rintro⟨h1,h2,h3,h4⟩;exact⟨h1,by omega,by omega,h4⟩
theorem e_open05_l1(n0:Int)(n1:Int)(n2:List Sp)(n3:List Boat)(s:Stk)(hl:n2.length≤4)(hp: ∀x∈n2,spanOk x 12=true):
 Run T b65l1 [(7, .ptr s.length 368 0),(8,i64 (lowSum n2)),(9,i64 (highSum n2)),(41, .sl .no 2 (es cSp n2)),(42,i64 n2.length),(43,i64 0)] ([(32, .cell [i64 n0,i64 n1, .sl .no 2 (es cSp n2), .sl .no 2 (es cBoat n3)]),(368, .cell (seaCellK (⟨⟨n0,n1⟩,n2,n3⟩:Sea) 0))]::s)=
  some (.exit 2,[(7, .ptr s.length 368 0),(8,i64 (lowSum n2)),(9,i64 (highSum n2)),(41, .sl .no 2 (es cSp n2)),(42,i64 n2.length),(43,i64 n2.length),(44, .bool false)],[(32, .cell [i64 n0,i64 n1, .sl .no 2 (es cSp n2), .sl .no 2 (es cBoat n3)]),(368, .cell (seaCellK (⟨⟨n0,n1⟩,n2,n3⟩:Sea) n2.length))]::s):=by
 have key:=loop_fold (T:=T) (live:=[7,8,9,41,42,43]) (keep:=[32,176,240,368]) (b:=d65l1) n2 (fun _ (_:Unit)=>True) (fun a _=>a)
  (fun k _=>[(7, .ptr s.length 368 0),(8,i64 (lowSum n2)),(9,i64 (highSum n2)),(41, .sl .no 2 (es cSp n2)),(42,i64 n2.length),(43,i64 k)]) (fun k _=>[(32, .cell [i64 n0,i64 n1, .sl .no 2 (es cSp n2), .sl .no 2 (es cBoat n3)]),(368, .cell (seaCellK (⟨⟨n0,n1⟩,n2,n3⟩:Sea) k))]::s)
  (fun _=>(.exit 2,[(7, .ptr s.length 368 0),(8,i64 (lowSum n2)),(9,i64 (highSum n2)),(41, .sl .no 2 (es cSp n2)),(42,i64 n2.length),(43,i64 n2.length),(44, .bool false)],[(32, .cell [i64 n0,i64 n1, .sl .no 2 (es cSp n2), .sl .no 2 (es cBoat n3)]),(368, .cell (seaCellK (⟨⟨n0,n1⟩,n2,n3⟩:Sea) n2.length))]::s))
  (by simp) ?_ (by simp) ?_ () trivial [(7, .ptr s.length 368 0),(8,i64 (lowSum n2)),(9,i64 (highSum n2)),(41, .sl .no 2 (es cSp n2)),(42,i64 n2.length),(43,i64 0)] ([(32, .cell [i64 n0,i64 n1, .sl .no 2 (es cSp n2), .sl .no 2 (es cBoat n3)]),(368, .cell (seaCellK (⟨⟨n0,n1⟩,n2,n3⟩:Sea) 0))]::s) (by simp) (by simp[seaCellK])
 ·exact key
 ·intro k a hk _
  have h1:=spanOk_iff.1 (hp n2[k] (List.getElem_mem hk))
  have h2:=sums_bound hp
  have hpk:partS (⟨⟨n0,n1⟩,n2,n3⟩:Sea) k=⟨max n2[k].lo (12-(highSum n2-n2[k].hi)),min n2[k].hi (12-(lowSum n2-n2[k].lo))⟩:=by simp[partS,hk]
  obtain rfl|rfl|rfl|rfl:k=0∨k=1∨k=2∨k=3:=by omega
  all_goals (simp (disch:=first|omega|assumption|decide +kernel|(simp;done)|(simp;omega)|fail) [hk,wi,seaCellK,partK,hpk]<;>omega)
 ·intro a hi
  simp[seaCellK]
theorem e_open05(n0:Int)(n1:Int)(n2:List Sp)(n3:List Boat)(hok:seaOk (⟨⟨n0,n1⟩,n2,n3⟩:Sea)=true)(lab)(loc:Ab.Loc)(s:Stk)(k0:loc.get lab=none):
 den T 65 [.agg [i64 n0,i64 n1, .sl .no 2 (es cSp n2), .sl .no 2 (es cBoat n3)], .bool true] lab (loc::s)=some (.tup [.ptr s.length lab 0,i64 0],loc.put lab (.cell (seaCell (⟨⟨n0,n1⟩,n2,n3⟩:Sea)))::s):=by
 obtain⟨h1,h2,h3,h4,h5,h6,h7⟩:=seaOk_iff.1 hok
 simp only at h1 h2 h3 h4 h5 h6 h7
 have g0:=e_open05_l0 n0 n1 n2 n3 (loc::s) h2 h4
 have g1:=e_open05_l1 n0 n1 n2 n3 (loc::s) h2 h4
 rw[seaCell_all (⟨⟨n0,n1⟩,n2,n3⟩:Sea) h2]at g1
 simp only[seaCellK,partK,Nat.not_lt_zero,if_false,List.length_cons]at g0 g1
 rw[den_fn t65 _ _ _ rfl]
 simp only[b65]
 simp (disch:=first|omega|assumption|decide +kernel|(simp;done)|(simp;omega)|fail) [hok,g0,g1,k0,seaCell]
theorem e_open05_bad(n0:Int)(n1:Int)(n2:List Sp)(n3:List Boat)(hok:seaOk (⟨⟨n0,n1⟩,n2,n3⟩:Sea)=false)(lab)(loc:Ab.Loc)(s:Stk):
 den T 65 [.agg [i64 n0,i64 n1, .sl .no 2 (es cSp n2), .sl .no 2 (es cBoat n3)], .bool true] lab (loc::s)=some (.tup [.nilp,i64 50],loc::s):=by
 rw[den_fn t65 _ _ _ rfl]
 simp only[b65]
 simp (disch:=first|omega|assumption|decide +kernel|(simp;done)|(simp;omega)|fail) [hok]
def needS(n:Sea)(i:Nat):Int:=(n.weight.hi*(partS n i).hi+11)/12
theorem e_need(n:Sea)(hok:seaOk n=true)(k:Nat)(hk:k<4)(d l:Nat)(S:Stk)(hd:d<S.length)(h:sget S d l=some (.cell (seaCell n)))(lab):
 den T 92 [.ptr d l 0,i64 k] lab S=some (i64 (needS n k),S):=by
 obtain⟨h1,h2,h3,h4,h5,h6,h7⟩:=seaOk_iff.1 hok
 have hw:=spanOk_iff.1 h1
 have hp:=part_bound hok k
 have hd': ¬d=S.length:=by omega
 have hm:=mulb (a:=n.weight.hi) (A:=2000) (w:=(partS n k).hi) (W:=12) (by omega) (by omega) (by omega) (by omega)
 have hq:IntKind.i64.wrap ((n.weight.hi*(partS n k).hi+11).tdiv 12)=needS n k:=IntWalk.i64_quo _ _ ⟨by omega,by omega,by omega⟩
 have e1:n.weight.hi*(partS n k).hi+12-1=n.weight.hi*(partS n k).hi+11:=by omega
 rw[den_fn t92 _ _ _ rfl]
 simp only[b92]
 obtain rfl|rfl|rfl|rfl:k=0∨k=1∨k=2∨k=3:=by omega
 all_goals simp (disch:=first|omega|assumption|decide +kernel|(simp;done)|(simp;omega)|fail) [h,hd',seaCell,wi,e1,hq]
end Go.Proofs.YtoedpegjoccnlaaGreat.A

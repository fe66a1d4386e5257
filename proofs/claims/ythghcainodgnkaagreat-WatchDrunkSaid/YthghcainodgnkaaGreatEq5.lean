/-
  Watch: WatchDrunk, WatchLies, WatchFish (not built yet).
-/
import Derived.Test.YthghcainodgnkaaGreatEq4
set_option linter.unusedSimpArgs false
set_option linter.unusedVariables false
namespace Go.Proofs.YthghcainodgnkaaGreat
open Go.Ab
theorem must_len {b:WBook}:(if open11 b true=0 then mustL b else []).length<1000000:=by
 split
 ·rename_i h
  obtain⟨hB,_,_⟩:=open11_ok h
  have:=(bookB_ok hB).t6
  unfold mustL
  rw[List.length_map]
  have h2:=List.length_filter_le (fun(n:Nat)=>(storiesL b).all fun l=>l.contains (n:Int)) (List.range b.T)
  rw[List.length_range]at h2
  omega
 ·simp
set_option maxHeartbeats 8000000 in
theorem e_WatchDrunk(b:WBook)(hs:ShortB b)(n:Int)(lab s):den T 14 [.agg (vB b),i64 n] lab s=some (.bool true,s):=by
 have h1:=fun lab s=>e_Huge11 b hs lab s
 cases c1:hugeK b
 rotate_left
 ·rw[den_fn t14 _ _ _ rfl]
  simp only[b14]
  simp (maxSteps:=6000000) (disch:=first|omega|assumption|decide +kernel|(simp;done)|(simp;omega)|fail) [h1,c1]
 have hc:=hugeK_copy c1
 have h2:=fun lab s=>e_Copy11 b hc lab s
 have hD: ∃x y:Int,(∀lab s,den T 58 [.agg (vB b),i64 n] lab s=some (.tup [i64 x,i64 y],s))∧ ∀lab s,den T 64 [.agg (vB b),i64 n] lab s=some (.tup [i64 x,i64 y],s):=by
  cases hB:bookB b
  ·exact⟨_,_,fun lab s=>x_Drunk b hc hB n lab s,fun lab s=>x_Drunk11 b hc hB n lab s⟩
  ·have hm:=trapB_mid (bookB_trap hB)
   exact⟨_,_,fun lab s=>e_DrunkW b hc hm n lab s,fun lab s=>e_Drunk11 b hc hm n lab s⟩
 obtain⟨x,y,h3,h4⟩:=hD
 have h5:=fun lab s=>e_MustW b hc lab s
 have h6:=fun lab s=>e_Must11 b hc lab s
 have h7:=fun lab s=>e_Same2s _ (must_len (b:=b)) lab s
 have h8:=fun lab s=>e_AskW b hc lab s
 have h9:=fun lab s=>e_Ask11 b hc lab s
 have h13:=fun lab s=>e_Same11 b hc lab s
 generalize (if open11 b true=0 then mustL b else [])=M at*
 generalize open11 b true=o at*
 generalize askV11 b=A at*
 rw[den_fn t14 _ _ _ rfl]
 simp only[b14]
 simp (maxSteps:=6000000) (disch:=first|omega|assumption|decide +kernel|(simp;done)|(simp;omega)|fail) [run_drawnK,orSlow_none,h1,c1,h2,h3,h4,h5,h6,h7,h8,h9,h13,-e_Same2]
end Go.Proofs.YthghcainodgnkaaGreat

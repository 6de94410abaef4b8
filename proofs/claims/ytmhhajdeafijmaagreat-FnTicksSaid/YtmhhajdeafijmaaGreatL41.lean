/-
  That the program and the reference answer alike, in plain terms, and that the laws answer true.
-/
import Derived.Test.YtmhhajdeafijmaaGreatL40
namespace Go.Proofs.YtmhhajdeafijmaaGreat
open Go.RowKit
set_option linter.unusedVariables false
set_option linter.unusedSimpArgs false
set_option maxRecDepth 100000
set_option maxHeartbeats 8000000
noncomputable section
theorem Rj (a b c:YI):Tot (fun _=>True) (Bb a b c):=by rw[Cb];exact Ak trivial
theorem A10 (a:A9):Tot (fun _=>True) (Kl a):=by rw[Td];exact Ak trivial
theorem Amc (n:YI) (k:YBs):Tot (fun r=>Bj r≤64) (Ey n k):=by
 obtain⟨r,_,h2,h3⟩:=Aqf n k
 exact⟨r,h2,h3⟩
theorem A80 (a0:YI):Tot (fun _=>True) (Zx a0):=by
 unfold Zx Afz
 simp only[Ag,Ai,Ad,Ao,List.length_nil,List.nil_append,Nat.zero_add]
 refine Aq (Rj _ _ _) (fun r1 _=>?_)
 refine Ax (fun hb1=>?_) (fun hb1=>?_)
 ·exact Ak trivial
 ·exact Ak trivial
theorem Pz (a0:YI):Tot (fun _=>True) (Cn a0):=by
 unfold Cn Iw
 simp only[Ag,Ai,Ad,Ao,List.length_nil,List.nil_append,Nat.zero_add]
 refine Aq (Rj _ _ _) (fun r1 _=>?_)
 refine Ax (fun hb1=>?_) (fun hb1=>?_)
 ·exact Ak trivial
 ·exact Ak trivial
theorem Auh (a0:A9) (a1:YI):Tot (fun _=>True) (Ew a0 a1):=by
 unfold Ew Hc
 simp only[Ag,Ai,Ad,Ao,List.length_nil,List.nil_append,Nat.zero_add]
 refine Aq (A10 _) (fun r1 _=>?_)
 refine Ax (fun hb1=>?_) (fun hb1=>?_)
 ·refine Ax (fun hb2=>?_) (fun hb2=>?_)
  ·refine Aq (Rj _ _ _) (fun r2 _=>?_)
   refine Ax (fun hb4=>?_) (fun hb4=>?_)
   ·exact Ak trivial
   ·exact Ak trivial
  ·exact Ak trivial
 ·exact Ak trivial
theorem Ua (a0:A9) (a1:YI):Tot (fun _=>True) (D9 a0 a1):=by
 unfold D9 J5
 simp only[Ag,Ai,Ad,Ao,List.length_nil,List.nil_append,Nat.zero_add]
 refine Aq (Auh _ _) (fun r1 _=>?_)
 refine Ax (fun hb1=>?_) (fun hb1=>?_)
 ·exact Ak trivial
 ·refine Ax (fun hb3=>?_) (fun hb3=>?_)
  ·have hd3:=eq_of_beq hb3
   exact Ak trivial
  ·refine Ax (fun hb6=>?_) (fun hb6=>?_)
   ·have hd6:=of_decide_eq_true hb6
    exact Ak trivial
   ·have hd6:=of_decide_eq_false hb6
    exact Ak trivial
theorem Ajy {b:List YB} {a0:A7} (hc:Ck b a0):Tot (fun r=>(As r.1≤60∧wfB r.1.2.2.2.1)∧Ck b r.2) (Ka a0):=by
 unfold Ka Nn
 simp only[Ag,Ai,Ad,Ao,List.length_nil,List.nil_append,Nat.zero_add]
 refine Aq (Dg _ hc zq9) (fun r1 ⟨⟨hr11,hr12⟩,hr1c⟩=>?_)
 refine Aq (Dg _ (Ap hc hr1c) zq9) (fun r2 ⟨⟨hr21,hr22⟩,hr2c⟩=>?_)
 refine Aq (Ch _ (Ap hc hr2c) zq9) (fun r3 ⟨⟨hr31,hr32⟩,hr3c⟩=>?_)
 refine Aq (Dg _ (Ap hc hr3c) zq9) (fun r4 ⟨⟨hr41,hr42⟩,hr4c⟩=>?_)
 exact Ak ⟨⟨Cy,by(dsimp only;first|exact Gk|assumption)⟩,(Ap hc hr4c)⟩
end
end Go.Proofs.YtmhhajdeafijmaaGreat

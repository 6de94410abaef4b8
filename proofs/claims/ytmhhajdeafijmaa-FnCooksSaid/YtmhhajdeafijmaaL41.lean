/-
  That the program and the reference answer alike, in plain terms, and that the laws answer true.
-/
import Derived.Test.YtmhhajdeafijmaaL40
namespace Go.Proofs.Ytmhhajdeafijmaa
open Go.RowKit
set_option linter.unusedVariables false
set_option linter.unusedSimpArgs false
set_option maxRecDepth 100000
set_option maxHeartbeats 8000000
noncomputable section
theorem Ai4 (a b c:YI):Tot (fun _=>True) (B7 a b c):=by rw[J2];exact As trivial
theorem Pz (a0:YI):Tot (fun _=>True) (Je a0):=by
 unfold Je T5
 simp only[Ad,Ae,Ac,Ah,List.length_nil,List.nil_append,Nat.zero_add]
 refine An (Ai4 _ _ _) (fun r1 _=>?_)
 refine Bs (fun hb1=>?_) (fun hb1=>?_)
 ·exact As trivial
 ·exact As trivial
theorem Af4 {b:List YB} {a0:Ax} (hc:B4 b a0):Tot (fun r=>(Df r.1≤110∧wfB r.1.2.2.2.1)∧B4 b r.2) (Ou a0):=by
 unfold Ou Ot
 simp only[Ad,Ae,Ac,Ah,List.length_nil,List.nil_append,Nat.zero_add]
 refine An (Bl _ hc zq7) (fun r1 ⟨⟨hr11,hr12⟩,hr1c⟩=>?_)
 refine Bs (fun hb1=>?_) (fun hb1=>?_)
 ·have hd1:=eq_of_beq hb1
  refine An (Bl _ (Ak hc hr1c) zq7) (fun r2 ⟨⟨hr21,hr22⟩,hr2c⟩=>?_)
  refine An (Be _ (Ak hc hr2c) zq7) (fun r3 ⟨⟨hr31,hr32⟩,hr3c⟩=>?_)
  exact As ⟨⟨zq8,zq9⟩,(Ak hc hr3c)⟩
 ·refine Bs (fun hb6=>?_) (fun hb6=>?_)
  ·have hd6:=eq_of_beq hb6
   refine An (Be _ (Ak hc hr1c) zq7) (fun r4 ⟨⟨hr41,hr42⟩,hr4c⟩=>?_)
   refine An (Be _ (Ak hc hr4c) zq7) (fun r5 ⟨⟨hr51,hr52⟩,hr5c⟩=>?_)
   refine An (Cc _ (0) (1000000) (Ak hc hr5c) zq4 zq4) (fun r6 ⟨⟨hr61,hr62⟩,hr6c⟩=>?_)
   refine An (Be _ (Ak hc hr6c) zq7) (fun r7 ⟨⟨hr71,hr72⟩,hr7c⟩=>?_)
   refine Bs (fun hb12=>?_) (fun hb12=>?_)
   ·have hd12:=eq_of_beq hb12
    refine An (Bl _ (Ak hc hr7c) zq7) (fun r8 ⟨⟨hr81,hr82⟩,hr8c⟩=>?_)
    refine An (Be _ (Ak hc hr8c) zq7) (fun r9 ⟨⟨hr91,hr92⟩,hr9c⟩=>?_)
    exact As ⟨⟨zq8,zq9⟩,(Ak hc hr9c)⟩
   ·exact As ⟨⟨zq8,zq9⟩,(Ak hc hr7c)⟩
  ·refine Bs (fun hb18=>?_) (fun hb18=>?_)
   ·have hd18:=eq_of_beq hb18
    refine An (Be _ (Ak hc hr1c) zq7) (fun r10 ⟨⟨hr101,hr102⟩,hr10c⟩=>?_)
    refine An (Be _ (Ak hc hr10c) zq7) (fun r11 ⟨⟨hr111,hr112⟩,hr11c⟩=>?_)
    refine An (Cc _ (0) (1000000) (Ak hc hr11c) zq4 zq4) (fun r12 ⟨⟨hr121,hr122⟩,hr12c⟩=>?_)
    refine An (Be _ (Ak hc hr12c) zq7) (fun r13 ⟨⟨hr131,hr132⟩,hr13c⟩=>?_)
    refine Bs (fun hb24=>?_) (fun hb24=>?_)
    ·have hd24:=eq_of_beq hb24
     refine An (Bl _ (Ak hc hr13c) zq7) (fun r14 ⟨⟨hr141,hr142⟩,hr14c⟩=>?_)
     refine An (Be _ (Ak hc hr14c) zq7) (fun r15 ⟨⟨hr151,hr152⟩,hr15c⟩=>?_)
     exact As ⟨⟨zq8,zq9⟩,(Ak hc hr15c)⟩
    ·exact As ⟨⟨zq8,zq9⟩,(Ak hc hr13c)⟩
   ·refine An (Be _ (Ak hc hr1c) zq7) (fun r16 ⟨⟨hr161,hr162⟩,hr16c⟩=>?_)
    refine An (Cc _ (0) (4294967295) (Ak hc hr16c) zq4 zq4) (fun r17 ⟨⟨hr171,hr172⟩,hr17c⟩=>?_)
    refine An (Cc _ (0) (281474976710655) (Ak hc hr17c) zq4 zq4) (fun r18 ⟨⟨hr181,hr182⟩,hr18c⟩=>?_)
    refine An (Be _ (Ak hc hr18c) zq7) (fun r19 ⟨⟨hr191,hr192⟩,hr19c⟩=>?_)
    refine An (Cc _ (0) (40) (Ak hc hr19c) zq4 zq4) (fun r20 ⟨⟨hr201,hr202⟩,hr20c⟩=>?_)
    refine Bs (fun hb35=>?_) (fun hb35=>?_)
    ·have hd35:=eq_of_beq hb35
     refine Bs (fun hb37=>?_) (fun hb37=>?_)
     ·have hd37:=of_decide_eq_true hb37
      refine An (Be _ (Ak hc hr20c) zq7) (fun r21 ⟨⟨hr211,hr212⟩,hr21c⟩=>?_)
      exact As ⟨⟨zq8,zq9⟩,(Ak hc hr21c)⟩
     ·have hd37:=of_decide_eq_false hb37
      refine An (Be _ (Ak hc hr20c) zq7) (fun r22 ⟨⟨hr221,hr222⟩,hr22c⟩=>?_)
      exact As ⟨⟨zq8,zq9⟩,(Ak hc hr22c)⟩
    ·refine Bs (fun hb44=>?_) (fun hb44=>?_)
     ·have hd44:=eq_of_beq hb44
      refine Bs (fun hb46=>?_) (fun hb46=>?_)
      ·have hd46:=of_decide_eq_true hb46
       refine An (Be _ (Ak hc hr20c) zq7) (fun r23 ⟨⟨hr231,hr232⟩,hr23c⟩=>?_)
       exact As ⟨⟨zq8,zq9⟩,(Ak hc hr23c)⟩
      ·have hd46:=of_decide_eq_false hb46
       refine An (Be _ (Ak hc hr20c) zq7) (fun r24 ⟨⟨hr241,hr242⟩,hr24c⟩=>?_)
       exact As ⟨⟨zq8,zq9⟩,(Ak hc hr24c)⟩
     ·refine Bs (fun hb53=>?_) (fun hb53=>?_)
      ·have hd53:=of_decide_eq_true hb53
       refine An (Be _ (Ak hc hr20c) zq7) (fun r25 ⟨⟨hr251,hr252⟩,hr25c⟩=>?_)
       exact As ⟨⟨zq8,zq9⟩,(Ak hc hr25c)⟩
      ·have hd53:=of_decide_eq_false hb53
       refine An (Be _ (Ak hc hr20c) zq7) (fun r26 ⟨⟨hr261,hr262⟩,hr26c⟩=>?_)
       exact As ⟨⟨zq8,zq9⟩,(Ak hc hr26c)⟩
end
end Go.Proofs.Ytmhhajdeafijmaa

/-
  That the program and the reference answer alike, in plain terms, and that the laws answer true.
-/
import Derived.Test.YtmhhajdeafijmaaL40
namespace Go.Proofs.Ytmhhajdeafijmaa
open Go.RowKit
set_option linter.unusedVariables false
set_option linter.unusedSimpArgs false
set_option maxRecDepth 100000
set_option maxHeartbeats 8000000
noncomputable section
theorem Ai1 (a b c:YI):Tot (fun _=>True) (B8 a b c):=by rw[J0];exact As trivial
theorem Px (a0:YI):Tot (fun _=>True) (Jc a0):=by
 unfold Jc T2
 simp only[Ad,Ae,Ac,Ah,List.length_nil,List.nil_append,Nat.zero_add]
 refine An (Ai1 _ _ _) (fun r1 _=>?_)
 refine Bt (fun hb1=>?_) (fun hb1=>?_)
 ·exact As trivial
 ·exact As trivial
theorem Af0 {b:List YB} {a0:Ay} (hc:B5 b a0):Tot (fun r=>(Au r.1≤110∧wfB r.1.2.2.2.1)∧B5 b r.2) (Oq a0):=by
 unfold Oq Oo
 simp only[Ad,Ae,Ac,Ah,List.length_nil,List.nil_append,Nat.zero_add]
 refine An (Bm _ hc (by first|decide|omega|(dsimp only;omega)|((try simp only[Au,need_Ep,need_Win,need_Chan,need_Client,List.length_nil,List.length_append,List.length_cons,List.length_set,List.length_take,List.length_drop,List.length_replicate,Nat.zero_add,Nat.add_zero]at*);omega))) (fun r1 ⟨⟨hr11,hr12⟩,hr1c⟩=>?_)
 refine Bt (fun hb1=>?_) (fun hb1=>?_)
 ·have hd1:=eq_of_beq hb1
  refine An (Bm _ (Aj hc hr1c) (by first|decide|omega|(dsimp only;omega)|((try simp only[Au,need_Ep,need_Win,need_Chan,need_Client,List.length_nil,List.length_append,List.length_cons,List.length_set,List.length_take,List.length_drop,List.length_replicate,Nat.zero_add,Nat.add_zero]at*);omega))) (fun r2 ⟨⟨hr21,hr22⟩,hr2c⟩=>?_)
  refine An (Bf _ (Aj hc hr2c) (by first|decide|omega|(dsimp only;omega)|((try simp only[Au,need_Ep,need_Win,need_Chan,need_Client,List.length_nil,List.length_append,List.length_cons,List.length_set,List.length_take,List.length_drop,List.length_replicate,Nat.zero_add,Nat.add_zero]at*);omega))) (fun r3 ⟨⟨hr31,hr32⟩,hr3c⟩=>?_)
  exact As ⟨⟨by((try simp only[Au,need_Ep,need_Win,need_Chan,need_Client,List.length_nil,List.length_append,List.length_cons,List.length_set,List.length_take,List.length_drop,List.length_replicate,Nat.zero_add,Nat.add_zero]at*);omega),zq7⟩,(Aj hc hr3c)⟩
 ·refine Bt (fun hb6=>?_) (fun hb6=>?_)
  ·have hd6:=eq_of_beq hb6
   refine An (Bf _ (Aj hc hr1c) (by first|decide|omega|(dsimp only;omega)|((try simp only[Au,need_Ep,need_Win,need_Chan,need_Client,List.length_nil,List.length_append,List.length_cons,List.length_set,List.length_take,List.length_drop,List.length_replicate,Nat.zero_add,Nat.add_zero]at*);omega))) (fun r4 ⟨⟨hr41,hr42⟩,hr4c⟩=>?_)
   refine An (Bf _ (Aj hc hr4c) (by first|decide|omega|(dsimp only;omega)|((try simp only[Au,need_Ep,need_Win,need_Chan,need_Client,List.length_nil,List.length_append,List.length_cons,List.length_set,List.length_take,List.length_drop,List.length_replicate,Nat.zero_add,Nat.add_zero]at*);omega))) (fun r5 ⟨⟨hr51,hr52⟩,hr5c⟩=>?_)
   refine An (Cd _ (0) (1000000) (Aj hc hr5c) zq4 zq4) (fun r6 ⟨⟨hr61,hr62⟩,hr6c⟩=>?_)
   refine An (Bf _ (Aj hc hr6c) (by first|decide|omega|(dsimp only;omega)|((try simp only[Au,need_Ep,need_Win,need_Chan,need_Client,List.length_nil,List.length_append,List.length_cons,List.length_set,List.length_take,List.length_drop,List.length_replicate,Nat.zero_add,Nat.add_zero]at*);omega))) (fun r7 ⟨⟨hr71,hr72⟩,hr7c⟩=>?_)
   refine Bt (fun hb12=>?_) (fun hb12=>?_)
   ·have hd12:=eq_of_beq hb12
    refine An (Bm _ (Aj hc hr7c) (by first|decide|omega|(dsimp only;omega)|((try simp only[Au,need_Ep,need_Win,need_Chan,need_Client,List.length_nil,List.length_append,List.length_cons,List.length_set,List.length_take,List.length_drop,List.length_replicate,Nat.zero_add,Nat.add_zero]at*);omega))) (fun r8 ⟨⟨hr81,hr82⟩,hr8c⟩=>?_)
    refine An (Bf _ (Aj hc hr8c) (by first|decide|omega|(dsimp only;omega)|((try simp only[Au,need_Ep,need_Win,need_Chan,need_Client,List.length_nil,List.length_append,List.length_cons,List.length_set,List.length_take,List.length_drop,List.length_replicate,Nat.zero_add,Nat.add_zero]at*);omega))) (fun r9 ⟨⟨hr91,hr92⟩,hr9c⟩=>?_)
    exact As ⟨⟨by((try simp only[Au,need_Ep,need_Win,need_Chan,need_Client,List.length_nil,List.length_append,List.length_cons,List.length_set,List.length_take,List.length_drop,List.length_replicate,Nat.zero_add,Nat.add_zero]at*);omega),zq7⟩,(Aj hc hr9c)⟩
   ·exact As ⟨⟨by((try simp only[Au,need_Ep,need_Win,need_Chan,need_Client,List.length_nil,List.length_append,List.length_cons,List.length_set,List.length_take,List.length_drop,List.length_replicate,Nat.zero_add,Nat.add_zero]at*);omega),zq7⟩,(Aj hc hr7c)⟩
  ·refine Bt (fun hb18=>?_) (fun hb18=>?_)
   ·have hd18:=eq_of_beq hb18
    refine An (Bf _ (Aj hc hr1c) (by first|decide|omega|(dsimp only;omega)|((try simp only[Au,need_Ep,need_Win,need_Chan,need_Client,List.length_nil,List.length_append,List.length_cons,List.length_set,List.length_take,List.length_drop,List.length_replicate,Nat.zero_add,Nat.add_zero]at*);omega))) (fun r10 ⟨⟨hr101,hr102⟩,hr10c⟩=>?_)
    refine An (Bf _ (Aj hc hr10c) (by first|decide|omega|(dsimp only;omega)|((try simp only[Au,need_Ep,need_Win,need_Chan,need_Client,List.length_nil,List.length_append,List.length_cons,List.length_set,List.length_take,List.length_drop,List.length_replicate,Nat.zero_add,Nat.add_zero]at*);omega))) (fun r11 ⟨⟨hr111,hr112⟩,hr11c⟩=>?_)
    refine An (Cd _ (0) (1000000) (Aj hc hr11c) zq4 zq4) (fun r12 ⟨⟨hr121,hr122⟩,hr12c⟩=>?_)
    refine An (Bf _ (Aj hc hr12c) (by first|decide|omega|(dsimp only;omega)|((try simp only[Au,need_Ep,need_Win,need_Chan,need_Client,List.length_nil,List.length_append,List.length_cons,List.length_set,List.length_take,List.length_drop,List.length_replicate,Nat.zero_add,Nat.add_zero]at*);omega))) (fun r13 ⟨⟨hr131,hr132⟩,hr13c⟩=>?_)
    refine Bt (fun hb24=>?_) (fun hb24=>?_)
    ·have hd24:=eq_of_beq hb24
     refine An (Bm _ (Aj hc hr13c) (by first|decide|omega|(dsimp only;omega)|((try simp only[Au,need_Ep,need_Win,need_Chan,need_Client,List.length_nil,List.length_append,List.length_cons,List.length_set,List.length_take,List.length_drop,List.length_replicate,Nat.zero_add,Nat.add_zero]at*);omega))) (fun r14 ⟨⟨hr141,hr142⟩,hr14c⟩=>?_)
     refine An (Bf _ (Aj hc hr14c) (by first|decide|omega|(dsimp only;omega)|((try simp only[Au,need_Ep,need_Win,need_Chan,need_Client,List.length_nil,List.length_append,List.length_cons,List.length_set,List.length_take,List.length_drop,List.length_replicate,Nat.zero_add,Nat.add_zero]at*);omega))) (fun r15 ⟨⟨hr151,hr152⟩,hr15c⟩=>?_)
     exact As ⟨⟨by((try simp only[Au,need_Ep,need_Win,need_Chan,need_Client,List.length_nil,List.length_append,List.length_cons,List.length_set,List.length_take,List.length_drop,List.length_replicate,Nat.zero_add,Nat.add_zero]at*);omega),zq7⟩,(Aj hc hr15c)⟩
    ·exact As ⟨⟨by((try simp only[Au,need_Ep,need_Win,need_Chan,need_Client,List.length_nil,List.length_append,List.length_cons,List.length_set,List.length_take,List.length_drop,List.length_replicate,Nat.zero_add,Nat.add_zero]at*);omega),zq7⟩,(Aj hc hr13c)⟩
   ·refine An (Bf _ (Aj hc hr1c) (by first|decide|omega|(dsimp only;omega)|((try simp only[Au,need_Ep,need_Win,need_Chan,need_Client,List.length_nil,List.length_append,List.length_cons,List.length_set,List.length_take,List.length_drop,List.length_replicate,Nat.zero_add,Nat.add_zero]at*);omega))) (fun r16 ⟨⟨hr161,hr162⟩,hr16c⟩=>?_)
    refine An (Cd _ (0) (4294967295) (Aj hc hr16c) zq4 zq4) (fun r17 ⟨⟨hr171,hr172⟩,hr17c⟩=>?_)
    refine An (Cd _ (0) (281474976710655) (Aj hc hr17c) zq4 zq4) (fun r18 ⟨⟨hr181,hr182⟩,hr18c⟩=>?_)
    refine An (Bf _ (Aj hc hr18c) (by first|decide|omega|(dsimp only;omega)|((try simp only[Au,need_Ep,need_Win,need_Chan,need_Client,List.length_nil,List.length_append,List.length_cons,List.length_set,List.length_take,List.length_drop,List.length_replicate,Nat.zero_add,Nat.add_zero]at*);omega))) (fun r19 ⟨⟨hr191,hr192⟩,hr19c⟩=>?_)
    refine An (Cd _ (0) (40) (Aj hc hr19c) zq4 zq4) (fun r20 ⟨⟨hr201,hr202⟩,hr20c⟩=>?_)
    refine Bt (fun hb35=>?_) (fun hb35=>?_)
    ·have hd35:=eq_of_beq hb35
     refine Bt (fun hb37=>?_) (fun hb37=>?_)
     ·have hd37:=of_decide_eq_true hb37
      refine An (Bf _ (Aj hc hr20c) (by first|decide|omega|(dsimp only;omega)|((try simp only[Au,need_Ep,need_Win,need_Chan,need_Client,List.length_nil,List.length_append,List.length_cons,List.length_set,List.length_take,List.length_drop,List.length_replicate,Nat.zero_add,Nat.add_zero]at*);omega))) (fun r21 ⟨⟨hr211,hr212⟩,hr21c⟩=>?_)
      exact As ⟨⟨by((try simp only[Au,need_Ep,need_Win,need_Chan,need_Client,List.length_nil,List.length_append,List.length_cons,List.length_set,List.length_take,List.length_drop,List.length_replicate,Nat.zero_add,Nat.add_zero]at*);omega),zq7⟩,(Aj hc hr21c)⟩
     ·have hd37:=of_decide_eq_false hb37
      refine An (Bf _ (Aj hc hr20c) (by first|decide|omega|(dsimp only;omega)|((try simp only[Au,need_Ep,need_Win,need_Chan,need_Client,List.length_nil,List.length_append,List.length_cons,List.length_set,List.length_take,List.length_drop,List.length_replicate,Nat.zero_add,Nat.add_zero]at*);omega))) (fun r22 ⟨⟨hr221,hr222⟩,hr22c⟩=>?_)
      exact As ⟨⟨by((try simp only[Au,need_Ep,need_Win,need_Chan,need_Client,List.length_nil,List.length_append,List.length_cons,List.length_set,List.length_take,List.length_drop,List.length_replicate,Nat.zero_add,Nat.add_zero]at*);omega),zq7⟩,(Aj hc hr22c)⟩
    ·refine Bt (fun hb44=>?_) (fun hb44=>?_)
     ·have hd44:=eq_of_beq hb44
      refine Bt (fun hb46=>?_) (fun hb46=>?_)
      ·have hd46:=of_decide_eq_true hb46
       refine An (Bf _ (Aj hc hr20c) (by first|decide|omega|(dsimp only;omega)|((try simp only[Au,need_Ep,need_Win,need_Chan,need_Client,List.length_nil,List.length_append,List.length_cons,List.length_set,List.length_take,List.length_drop,List.length_replicate,Nat.zero_add,Nat.add_zero]at*);omega))) (fun r23 ⟨⟨hr231,hr232⟩,hr23c⟩=>?_)
       exact As ⟨⟨by((try simp only[Au,need_Ep,need_Win,need_Chan,need_Client,List.length_nil,List.length_append,List.length_cons,List.length_set,List.length_take,List.length_drop,List.length_replicate,Nat.zero_add,Nat.add_zero]at*);omega),zq7⟩,(Aj hc hr23c)⟩
      ·have hd46:=of_decide_eq_false hb46
       refine An (Bf _ (Aj hc hr20c) (by first|decide|omega|(dsimp only;omega)|((try simp only[Au,need_Ep,need_Win,need_Chan,need_Client,List.length_nil,List.length_append,List.length_cons,List.length_set,List.length_take,List.length_drop,List.length_replicate,Nat.zero_add,Nat.add_zero]at*);omega))) (fun r24 ⟨⟨hr241,hr242⟩,hr24c⟩=>?_)
       exact As ⟨⟨by((try simp only[Au,need_Ep,need_Win,need_Chan,need_Client,List.length_nil,List.length_append,List.length_cons,List.length_set,List.length_take,List.length_drop,List.length_replicate,Nat.zero_add,Nat.add_zero]at*);omega),zq7⟩,(Aj hc hr24c)⟩
     ·refine Bt (fun hb53=>?_) (fun hb53=>?_)
      ·have hd53:=of_decide_eq_true hb53
       refine An (Bf _ (Aj hc hr20c) (by first|decide|omega|(dsimp only;omega)|((try simp only[Au,need_Ep,need_Win,need_Chan,need_Client,List.length_nil,List.length_append,List.length_cons,List.length_set,List.length_take,List.length_drop,List.length_replicate,Nat.zero_add,Nat.add_zero]at*);omega))) (fun r25 ⟨⟨hr251,hr252⟩,hr25c⟩=>?_)
       exact As ⟨⟨by((try simp only[Au,need_Ep,need_Win,need_Chan,need_Client,List.length_nil,List.length_append,List.length_cons,List.length_set,List.length_take,List.length_drop,List.length_replicate,Nat.zero_add,Nat.add_zero]at*);omega),zq7⟩,(Aj hc hr25c)⟩
      ·have hd53:=of_decide_eq_false hb53
       refine An (Bf _ (Aj hc hr20c) (by first|decide|omega|(dsimp only;omega)|((try simp only[Au,need_Ep,need_Win,need_Chan,need_Client,List.length_nil,List.length_append,List.length_cons,List.length_set,List.length_take,List.length_drop,List.length_replicate,Nat.zero_add,Nat.add_zero]at*);omega))) (fun r26 ⟨⟨hr261,hr262⟩,hr26c⟩=>?_)
       exact As ⟨⟨by((try simp only[Au,need_Ep,need_Win,need_Chan,need_Client,List.length_nil,List.length_append,List.length_cons,List.length_set,List.length_take,List.length_drop,List.length_replicate,Nat.zero_add,Nat.add_zero]at*);omega),zq7⟩,(Aj hc hr26c)⟩
end
end Go.Proofs.Ytmhhajdeafijmaa

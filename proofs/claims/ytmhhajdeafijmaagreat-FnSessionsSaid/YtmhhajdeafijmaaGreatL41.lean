/-
  That the program and the reference answer alike, in plain terms, and that the laws answer true.
-/
import Derived.Test.YtmhhajdeafijmaaGreatL40
namespace Go.Proofs.YtmhhajdeafijmaaGreat
open Go.RowKit
set_option linter.unusedVariables false
set_option linter.unusedSimpArgs false
set_option maxRecDepth 100000
set_option maxHeartbeats 8000000
noncomputable section
theorem Vd {l:List YB} {i:Nat} {x:YB} (h:wfB l) (hx:0≤x.1∧x.1≤255):wfB (l.set i x):=fun j y hy=>by
 rw[List.getElem?_set]at hy
 split at hy
 ·split at hy
  ·simp only[Option.some.injEq]at hy;rw[←hy];exact hx
  ·cases hy
 ·exact h j y hy
theorem R0 {l:List YB} {i j:Nat} (h:wfB l):wfB ((l.take i).drop j):=fun k y hy=>by
 rw[List.getElem?_drop,List.getElem?_take]at hy
 split at hy
 ·exact h _ y hy
 ·cases hy
theorem Avn (a b c:YI):Tot (fun _=>True) (By a b c):=by rw[Cw];exact Ah trivial
theorem O8 (n:YI) (k:YBs):Tot (fun r=>Bx r≤64) (Ev n k):=by
 obtain⟨r,_,h2,h3⟩:=Al6 n k
 exact⟨r,h2,h3⟩
theorem R7 (a0:YI):Tot (fun _=>True) (Hv a0):=by
 unfold Hv Vm
 simp only[Ae,Ai,Ac,Aj,List.length_nil,List.nil_append,Nat.zero_add]
 refine Ad (Avn _ _ _) (fun r1 _=>?_)
 refine An (fun hb1=>?_) (fun hb1=>?_)
 ·exact Ah trivial
 ·exact Ah trivial
theorem A3k {b:List YB} {a0:Az} (hc:B6 b a0):Tot (fun r=>B6 b r.2) (Ag2 a0):=by
 unfold Ag2 Ag1
 simp only[Ae,Ai,Ac,Aj,List.length_nil,List.nil_append,Nat.zero_add]
 refine Ad (B0 _ (-9223372036854775808) (9223372036854775807) hc zq4 zq4) (fun r1 ⟨⟨hr11,hr12⟩,hr1c⟩=>?_)
 exact Ah (Ab hc hr1c)
theorem A1a {b:List YB} {a0:Az} (hc:B6 b a0):Tot (fun r=>B6 b r.2) (Adc a0):=by
 unfold Adc Adb
 simp only[Ae,Ai,Ac,Aj,List.length_nil,List.nil_append,Nat.zero_add]
 refine Ad (Ar _ hc zq8) (fun r1 hr1c=>?_)
 refine An (fun hb1=>?_) (fun hb1=>?_)
 ·refine Ad (Bd _ (Ab hc hr1c) zq8) (fun r2 ⟨⟨hr21,hr22⟩,hr2c⟩=>?_)
  refine Ad (Km (Ab hc hr2c)) (fun r3 ⟨⟨hr31,hr32⟩,hr3c⟩=>?_)
  refine Ad (Bd _ (Ab hc hr3c) zq8) (fun r4 ⟨⟨hr41,hr42⟩,hr4c⟩=>?_)
  exact Ah (Ab hc hr4c)
 ·refine Ad (Bd _ (Ab hc hr1c) zq8) (fun r5 ⟨⟨hr51,hr52⟩,hr5c⟩=>?_)
  refine Ad (R7 _) (fun r6 _=>?_)
  exact Ah (Ab hc hr5c)
theorem A3l {b:List YB} {a0:Az} (hc:B6 b a0):Tot (fun r=>B6 b r.2) (Ec a0):=by
 unfold Ec Ag3
 simp only[Ae,Ai,Ac,Aj,List.length_nil,List.nil_append,Nat.zero_add]
 refine Ad (A1a hc) (fun r1 hr1c=>?_)
 refine Ad (Bd _ (Ab hc hr1c) zq8) (fun r2 ⟨⟨hr21,hr22⟩,hr2c⟩=>?_)
 refine An (fun hb2=>?_) (fun hb2=>?_)
 ·have hd2:=eq_of_beq hb2
  refine Ad (A3k (Ab hc hr2c)) (fun r3 hr3c=>?_)
  exact Ah (Ab hc hr3c)
 ·refine An (fun hb6=>?_) (fun hb6=>?_)
  ·have hd6:=eq_of_beq hb6
   refine Ad (B0 _ (-1) (65536) (Ab hc hr2c) zq4 zq4) (fun r4 ⟨⟨hr41,hr42⟩,hr4c⟩=>?_)
   exact Ah (Ab hc hr4c)
  ·exact Ah (Ab hc hr2c)
theorem A1b {b:List YB} {a0:Az} (hc:B6 b a0):Tot (fun r=>r.2.1.1.length≤40∧B6 b r.2.2) (Ac4 a0):=by
 unfold Ac4 Ac3
 simp only[Ae,Ai,Ac,Aj,List.length_nil,List.nil_append,Nat.zero_add]
 refine Ad (Bd _ hc zq8) (fun r1 ⟨⟨hr11,hr12⟩,hr1c⟩=>?_)
 refine An (fun hb1=>?_) (fun hb1=>?_)
 ·have hd1:=eq_of_beq hb1
  refine Ad (Bd _ (Ab hc hr1c) zq8) (fun r2 ⟨⟨hr21,hr22⟩,hr2c⟩=>?_)
  refine Ad (Cp _ (Ab hc hr2c) zq8) (fun r3 ⟨⟨hr31,hr32⟩,hr3c⟩=>?_)
  exact Ah ⟨zq9,(Ab hc hr3c)⟩
 ·refine An (fun hb6=>?_) (fun hb6=>?_)
  ·have hd6:=eq_of_beq hb6
   refine Ad (Bd _ (Ab hc hr1c) zq8) (fun r4 ⟨⟨hr41,hr42⟩,hr4c⟩=>?_)
   refine Ad (Cp _ (Ab hc hr4c) zq8) (fun r5 ⟨⟨hr51,hr52⟩,hr5c⟩=>?_)
   exact Ah ⟨zq9,(Ab hc hr5c)⟩
  ·refine Ad (B0 _ (0) (40) (Ab hc hr1c) zq4 zq4) (fun r6 ⟨⟨hr61,hr62⟩,hr6c⟩=>?_)
   refine Ad (Cp _ (Ab hc hr6c) zq8) (fun r7 ⟨⟨hr71,hr72⟩,hr7c⟩=>?_)
   exact Ah ⟨zq9,(Ab hc hr7c)⟩
theorem Q2 {b:List YB} {a0:Az} (a1:YBs) (hc:B6 b a0) (hl:a1.1.length≤1000000):Tot (fun r=>(r.1.1.length≤a1.1.length+1∧(wfB a1.1→wfB r.1.1))∧B6 b r.2) (Kb a0 a1):=by
 unfold Kb Ac9
 simp only[Ae,Ai,Ac,Aj,List.length_nil,List.nil_append,Nat.zero_add]
 refine F6 (Ak zq8) ?_
 refine Ad (Bd _ hc zq8) (fun r1 ⟨⟨hr11,hr12⟩,hr1c⟩=>?_)
 refine An (fun hb2=>?_) (fun hb2=>?_)
 ·have hd2:=eq_of_beq hb2
  refine An (fun hb4=>?_) (fun hb4=>?_)
  ·have hd4:=of_decide_eq_true hb4
   refine Ad (Bd _ (Ab hc hr1c) zq8) (fun r2 ⟨⟨hr21,hr22⟩,hr2c⟩=>?_)
   refine Ad (O7 (P:=fun _=>True) zq8 zq8 (fun _ _=>trivial)) (fun e3 _=>?_)
   refine Ad (Bd _ (Ab hc hr2c) zq8) (fun r4 ⟨⟨hr41,hr42⟩,hr4c⟩=>?_)
   refine Ad (O7 (P:=fun _=>True) zq8 zq8 (fun _ _=>trivial)) (fun e5 _=>?_)
   exact Ah ⟨⟨zq9,fun hw=>by(first|exact hw|exact Vd hw (u8_in _)|exact R0 hw|exact Ol hw (u8_in _))⟩,(Ab hc hr4c)⟩
  ·have hd4:=of_decide_eq_false hb4
   exact Ah ⟨⟨zq9,fun hw=>by(first|exact hw|exact Vd hw (u8_in _)|exact R0 hw|exact Ol hw (u8_in _))⟩,(Ab hc hr1c)⟩
 ·refine An (fun hb13=>?_) (fun hb13=>?_)
  ·have hd13:=eq_of_beq hb13
   refine An (fun hb15=>?_) (fun hb15=>?_)
   ·have hd15:=of_decide_eq_true hb15
    refine Ad (Bd _ (Ab hc hr1c) zq8) (fun r7 ⟨⟨hr71,hr72⟩,hr7c⟩=>?_)
    refine F6 (Ak zq8) ?_
    refine F6 (Ak zq8) ?_
    exact Ah ⟨⟨zq9,fun hw=>by(first|exact hw|exact Vd hw (u8_in _)|exact R0 hw|exact Ol hw (u8_in _))⟩,(Ab hc hr7c)⟩
   ·have hd15:=of_decide_eq_false hb15
    exact Ah ⟨⟨zq9,fun hw=>by(first|exact hw|exact Vd hw (u8_in _)|exact R0 hw|exact Ol hw (u8_in _))⟩,(Ab hc hr1c)⟩
  ·refine An (fun hb23=>?_) (fun hb23=>?_)
   ·have hd23:=eq_of_beq hb23
    refine Ad (Km (Ab hc hr1c)) (fun r8 ⟨⟨hr81,hr82⟩,hr8c⟩=>?_)
    refine F6 (Ak zq8) ?_
    exact Ah ⟨⟨zq9,fun hw=>by(first|exact hw|exact Vd hw (u8_in _)|exact R0 hw|exact Ol hw (u8_in _))⟩,(Ab hc hr8c)⟩
   ·exact Ah ⟨⟨zq9,fun hw=>by(first|exact hw|exact Vd hw (u8_in _)|exact R0 hw|exact Ol hw (u8_in _))⟩,(Ab hc hr1c)⟩
theorem Bk {b:List YB} {a0:Az} (a1:Au) (hc:B6 b a0) (hn:Aq a1≤200000) (hw:wfB a1.2.2.2.1):Tot (fun r=>(Aq r.1≤Aq a1+1∧wfB r.1.2.2.2.1)∧B6 b r.2) (Bi a0 a1):=by
 unfold Bi Ada
 simp only[Ae,Ai,Ac,Aj,List.length_nil,List.nil_append,Nat.zero_add]
 rw[Al7 _ zq0]
 simp only[Ag]
 refine Ad (Bd _ hc zq8) (fun r2 ⟨⟨hr21,hr22⟩,hr2c⟩=>?_)
 refine An (fun hb3=>?_) (fun hb3=>?_)
 ·have hd3:=eq_of_beq hb3
  refine Ad (B0 _ (-1) (7) (Ab hc hr2c) zq4 zq4) (fun r3 ⟨⟨hr31,hr32⟩,hr3c⟩=>?_)
  exact Ah ⟨⟨zq9,Aes⟩,(Ab hc hr3c)⟩
 ·refine An (fun hb7=>?_) (fun hb7=>?_)
  ·have hd7:=eq_of_beq hb7
   refine Ad (B0 _ (-1) (1) (Ab hc hr2c) zq4 zq4) (fun r4 ⟨⟨hr41,hr42⟩,hr4c⟩=>?_)
   exact Ah ⟨⟨zq9,Aes⟩,(Ab hc hr4c)⟩
  ·refine An (fun hb11=>?_) (fun hb11=>?_)
   ·have hd11:=eq_of_beq hb11
    refine Ad (Q2 _ (Ab hc hr2c) zq8) (fun r5 ⟨⟨hr51,hr52⟩,hr5c⟩=>?_)
    exact Ah ⟨⟨zq9,Aes⟩,(Ab hc hr5c)⟩
   ·refine An (fun hb15=>?_) (fun hb15=>?_)
    ·have hd15:=eq_of_beq hb15
     refine Ad (Q2 _ (Ab hc hr2c) zq8) (fun r6 ⟨⟨hr61,hr62⟩,hr6c⟩=>?_)
     exact Ah ⟨⟨zq9,Aes⟩,(Ab hc hr6c)⟩
    ·refine An (fun hb19=>?_) (fun hb19=>?_)
     ·have hd19:=eq_of_beq hb19
      refine Ad (Q2 _ (Ab hc hr2c) zq8) (fun r7 ⟨⟨hr71,hr72⟩,hr7c⟩=>?_)
      exact Ah ⟨⟨zq9,Aes⟩,(Ab hc hr7c)⟩
     ·refine An (fun hb23=>?_) (fun hb23=>?_)
      ·have hd23:=eq_of_beq hb23
       refine Ad (Q2 _ (Ab hc hr2c) zq8) (fun r8 ⟨⟨hr81,hr82⟩,hr8c⟩=>?_)
       exact Ah ⟨⟨zq9,Aes⟩,(Ab hc hr8c)⟩
      ·refine An (fun hb27=>?_) (fun hb27=>?_)
       ·have hd27:=eq_of_beq hb27
        refine Ad (Q2 _ (Ab hc hr2c) zq8) (fun r9 ⟨⟨hr91,hr92⟩,hr9c⟩=>?_)
        exact Ah ⟨⟨zq9,Aes⟩,(Ab hc hr9c)⟩
       ·refine An (fun hb31=>?_) (fun hb31=>?_)
        ·have hd31:=eq_of_beq hb31
         refine Ad (Bd _ (Ab hc hr2c) zq8) (fun r10 ⟨⟨hr101,hr102⟩,hr10c⟩=>?_)
         exact Ah ⟨⟨zq9,Aes⟩,(Ab hc hr10c)⟩
        ·exact Ah ⟨⟨zq9,Aes⟩,(Ab hc hr2c)⟩
theorem Ato {b:List YB} {a0:Az} (hc:B6 b a0):Tot (fun r=>(Aq r.1≤60∧wfB r.1.2.2.2.1)∧B6 b r.2) (Ks a0):=by
 unfold Ks N4
 simp only[Ae,Ai,Ac,Aj,List.length_nil,List.nil_append,Nat.zero_add]
 refine Ad (Cp _ hc zq8) (fun r1 ⟨⟨hr11,hr12⟩,hr1c⟩=>?_)
 refine Ad (Cp _ (Ab hc hr1c) zq8) (fun r2 ⟨⟨hr21,hr22⟩,hr2c⟩=>?_)
 refine Ad (Bd _ (Ab hc hr2c) zq8) (fun r3 ⟨⟨hr31,hr32⟩,hr3c⟩=>?_)
 refine Ad (Cp _ (Ab hc hr3c) zq8) (fun r4 ⟨⟨hr41,hr42⟩,hr4c⟩=>?_)
 exact Ah ⟨⟨zq9,by(dsimp only;first|exact Gu|assumption)⟩,(Ab hc hr4c)⟩
end
end Go.Proofs.YtmhhajdeafijmaaGreat

/-
  That the program and the reference answer alike, in plain terms, and that the laws answer true.
-/
import Derived.Test.YtmhhajdeafijmaaGreatL40
namespace Go.Proofs.YtmhhajdeafijmaaGreat
open Go.RowKit
set_option linter.unusedVariables false
set_option linter.unusedSimpArgs false
set_option maxRecDepth 100000
set_option maxHeartbeats 8000000
noncomputable section
theorem W7 {l:List YB} {i:Nat} {x:YB} (h:wfB l) (hx:0≤x.1∧x.1≤255):wfB (l.set i x):=fun j y hy=>by
 rw[List.getElem?_set]at hy
 split at hy
 ·split at hy
  ·simp only[Option.some.injEq]at hy;rw[←hy];exact hx
  ·cases hy
 ·exact h j y hy
theorem Qw {l:List YB} {i j:Nat} (h:wfB l):wfB ((l.take i).drop j):=fun k y hy=>by
 rw[List.getElem?_drop,List.getElem?_take]at hy
 split at hy
 ·exact h _ y hy
 ·cases hy
theorem Qx (a b c:YI):Tot (fun _=>True) (Bi a b c):=by rw[Cz];exact Ag trivial
theorem A2q (a:B0):Tot (fun _=>True) (J3 a):=by rw[Awd];exact Ag trivial
theorem Az6 {b:List YB} {c:Au} (l:List YI) (h:Bu b c) (hl:0<l.length∧l.length≤256):Tot (fun r=>Bu b r.2) (A3 c (l,())):=by
 unfold A3 Aap
 simp only[Aj,Al,Af,Aq]
 refine Ae (Ba _ h zq2) (fun r hr=>?_)
 obtain⟨⟨r1,r2⟩,r3⟩:=hr
 dsimp only at r2
 exact Ae (Nr (P:=fun _=>True) r1 zq0 (fun _ _=>trivial)) (fun x _=>Ag (Aa h r3))
theorem Lb (n:YI) (k:YBs):Tot (fun r=>Bp r≤64) (Dr n k):=by
 obtain⟨r,_,h2,h3⟩:=Aqn n k
 exact⟨r,h2,h3⟩
theorem Az7 (a0:YI):Tot (fun _=>True) (Afh a0):=by
 unfold Afh Aph
 simp only[Aj,Al,Af,Aq,List.length_nil,List.nil_append,Nat.zero_add]
 refine Ae (Qx _ _ _) (fun r1 _=>?_)
 refine Am (fun hb1=>?_) (fun hb1=>?_)
 ·exact Ag trivial
 ·exact Ag trivial
theorem Pk (a0:YI):Tot (fun _=>True) (Dg a0):=by
 unfold Dg Kq
 simp only[Aj,Al,Af,Aq,List.length_nil,List.nil_append,Nat.zero_add]
 refine Ae (Qx _ _ _) (fun r1 _=>?_)
 refine Am (fun hb1=>?_) (fun hb1=>?_)
 ·exact Ag trivial
 ·exact Ag trivial
theorem Auu (a0:B0) (a1:YI):Tot (fun _=>True) (Qa a0 a1):=by
 unfold Qa P0
 simp only[Aj,Al,Af,Aq,List.length_nil,List.nil_append,Nat.zero_add]
 refine Ae (A2q _) (fun r1 _=>?_)
 refine Am (fun hb1=>?_) (fun hb1=>?_)
 ·refine Am (fun hb2=>?_) (fun hb2=>?_)
  ·refine Ae (Qx _ _ _) (fun r2 _=>?_)
   refine Am (fun hb4=>?_) (fun hb4=>?_)
   ·exact Ag trivial
   ·exact Ag trivial
  ·exact Ag trivial
 ·exact Ag trivial
theorem Tq (a0:B0) (a1:YI):Tot (fun _=>True) (Js a0 a1):=by
 unfold Js Sz
 simp only[Aj,Al,Af,Aq,List.length_nil,List.nil_append,Nat.zero_add]
 refine Ae (Auu _ _) (fun r1 _=>?_)
 refine Am (fun hb1=>?_) (fun hb1=>?_)
 ·exact Ag trivial
 ·refine Am (fun hb3=>?_) (fun hb3=>?_)
  ·have hd3:=eq_of_beq hb3
   exact Ag trivial
  ·refine Am (fun hb6=>?_) (fun hb6=>?_)
   ·have hd6:=of_decide_eq_true hb6
    exact Ag trivial
   ·have hd6:=of_decide_eq_false hb6
    exact Ag trivial
theorem A8b {b:List YB} {a0:Au} (hc:Bu b a0):Tot (fun r=>Bu b r.2) (Aki a0):=by
 unfold Aki Akh
 simp only[Aj,Al,Af,Aq,List.length_nil,List.nil_append,Nat.zero_add]
 refine Ae (A6 _ (-9223372036854775808) (9223372036854775807) hc zq4 zq4) (fun r1 ⟨⟨hr11,hr12⟩,hr1c⟩=>?_)
 exact Ag (Aa hc hr1c)
theorem A5o {b:List YB} {a0:Au} (hc:Bu b a0):Tot (fun r=>Bu b r.2) (Agc a0):=by
 unfold Agc Agb
 simp only[Aj,Al,Af,Aq,List.length_nil,List.nil_append,Nat.zero_add]
 refine Ae (Ay _ hc zq7) (fun r1 hr1c=>?_)
 refine Am (fun hb1=>?_) (fun hb1=>?_)
 ·refine Ae (Ba _ (Aa hc hr1c) zq7) (fun r2 ⟨⟨hr21,hr22⟩,hr2c⟩=>?_)
  refine Ae (Jm (Aa hc hr2c)) (fun r3 ⟨⟨hr31,hr32⟩,hr3c⟩=>?_)
  refine Ae (Ba _ (Aa hc hr3c) zq7) (fun r4 ⟨⟨hr41,hr42⟩,hr4c⟩=>?_)
  exact Ag (Aa hc hr4c)
 ·refine Ae (Ba _ (Aa hc hr1c) zq7) (fun r5 ⟨⟨hr51,hr52⟩,hr5c⟩=>?_)
  refine Ae (Az7 _) (fun r6 _=>?_)
  exact Ag (Aa hc hr5c)
theorem A8c {b:List YB} {a0:Au} (hc:Bu b a0):Tot (fun r=>Bu b r.2) (Akk a0):=by
 unfold Akk Akj
 simp only[Aj,Al,Af,Aq,List.length_nil,List.nil_append,Nat.zero_add]
 refine Ae (A5o hc) (fun r1 hr1c=>?_)
 refine Ae (Ba _ (Aa hc hr1c) zq7) (fun r2 ⟨⟨hr21,hr22⟩,hr2c⟩=>?_)
 refine Am (fun hb2=>?_) (fun hb2=>?_)
 ·have hd2:=eq_of_beq hb2
  refine Ae (A8b (Aa hc hr2c)) (fun r3 hr3c=>?_)
  exact Ag (Aa hc hr3c)
 ·refine Am (fun hb6=>?_) (fun hb6=>?_)
  ·have hd6:=eq_of_beq hb6
   refine Ae (A6 _ (-1) (65536) (Aa hc hr2c) zq4 zq4) (fun r4 ⟨⟨hr41,hr42⟩,hr4c⟩=>?_)
   exact Ag (Aa hc hr4c)
  ·exact Ag (Aa hc hr2c)
theorem A5p {b:List YB} {a0:Au} (hc:Bu b a0):Tot (fun r=>r.2.1.1.length≤40∧Bu b r.2.2) (Agn a0):=by
 unfold Agn Agm
 simp only[Aj,Al,Af,Aq,List.length_nil,List.nil_append,Nat.zero_add]
 refine Ae (Ba _ hc zq7) (fun r1 ⟨⟨hr11,hr12⟩,hr1c⟩=>?_)
 refine Am (fun hb1=>?_) (fun hb1=>?_)
 ·have hd1:=eq_of_beq hb1
  refine Ae (Ba _ (Aa hc hr1c) zq7) (fun r2 ⟨⟨hr21,hr22⟩,hr2c⟩=>?_)
  refine Ae (Be _ (Aa hc hr2c) zq7) (fun r3 ⟨⟨hr31,hr32⟩,hr3c⟩=>?_)
  exact Ag ⟨zq8,(Aa hc hr3c)⟩
 ·refine Am (fun hb6=>?_) (fun hb6=>?_)
  ·have hd6:=eq_of_beq hb6
   refine Ae (Ba _ (Aa hc hr1c) zq7) (fun r4 ⟨⟨hr41,hr42⟩,hr4c⟩=>?_)
   refine Ae (Be _ (Aa hc hr4c) zq7) (fun r5 ⟨⟨hr51,hr52⟩,hr5c⟩=>?_)
   exact Ag ⟨zq8,(Aa hc hr5c)⟩
  ·refine Ae (A6 _ (0) (40) (Aa hc hr1c) zq4 zq4) (fun r6 ⟨⟨hr61,hr62⟩,hr6c⟩=>?_)
   refine Ae (Be _ (Aa hc hr6c) zq7) (fun r7 ⟨⟨hr71,hr72⟩,hr7c⟩=>?_)
   exact Ag ⟨zq8,(Aa hc hr7c)⟩
theorem Pm {b:List YB} {a0:Au} (a1:YBs) (hc:Bu b a0) (hl:a1.1.length≤1000000):Tot (fun r=>(r.1.1.length≤a1.1.length+1∧(wfB a1.1→wfB r.1.1))∧Bu b r.2) (Jd a0 a1):=by
 unfold Jd Ago
 simp only[Aj,Al,Af,Aq,List.length_nil,List.nil_append,Nat.zero_add]
 refine D0 (Ap zq7) ?_
 refine Ae (Ba _ hc zq7) (fun r1 ⟨⟨hr11,hr12⟩,hr1c⟩=>?_)
 refine Am (fun hb2=>?_) (fun hb2=>?_)
 ·have hd2:=eq_of_beq hb2
  refine Am (fun hb4=>?_) (fun hb4=>?_)
  ·have hd4:=of_decide_eq_true hb4
   refine Ae (Ba _ (Aa hc hr1c) zq7) (fun r2 ⟨⟨hr21,hr22⟩,hr2c⟩=>?_)
   refine Ae (Nr (P:=fun _=>True) zq7 zq7 (fun _ _=>trivial)) (fun e3 _=>?_)
   refine Ae (Ba _ (Aa hc hr2c) zq7) (fun r4 ⟨⟨hr41,hr42⟩,hr4c⟩=>?_)
   refine Ae (Nr (P:=fun _=>True) zq7 zq7 (fun _ _=>trivial)) (fun e5 _=>?_)
   exact Ag ⟨⟨zq8,fun hw=>by(first|exact hw|exact W7 hw (u8_in _)|exact Qw hw|exact Nb hw (u8_in _))⟩,(Aa hc hr4c)⟩
  ·have hd4:=of_decide_eq_false hb4
   exact Ag ⟨⟨zq8,fun hw=>by(first|exact hw|exact W7 hw (u8_in _)|exact Qw hw|exact Nb hw (u8_in _))⟩,(Aa hc hr1c)⟩
 ·refine Am (fun hb13=>?_) (fun hb13=>?_)
  ·have hd13:=eq_of_beq hb13
   refine Am (fun hb15=>?_) (fun hb15=>?_)
   ·have hd15:=of_decide_eq_true hb15
    refine Ae (Ba _ (Aa hc hr1c) zq7) (fun r7 ⟨⟨hr71,hr72⟩,hr7c⟩=>?_)
    refine D0 (Ap zq7) ?_
    refine D0 (Ap zq7) ?_
    exact Ag ⟨⟨zq8,fun hw=>by(first|exact hw|exact W7 hw (u8_in _)|exact Qw hw|exact Nb hw (u8_in _))⟩,(Aa hc hr7c)⟩
   ·have hd15:=of_decide_eq_false hb15
    exact Ag ⟨⟨zq8,fun hw=>by(first|exact hw|exact W7 hw (u8_in _)|exact Qw hw|exact Nb hw (u8_in _))⟩,(Aa hc hr1c)⟩
  ·refine Am (fun hb23=>?_) (fun hb23=>?_)
   ·have hd23:=eq_of_beq hb23
    refine Ae (Jm (Aa hc hr1c)) (fun r8 ⟨⟨hr81,hr82⟩,hr8c⟩=>?_)
    refine D0 (Ap zq7) ?_
    exact Ag ⟨⟨zq8,fun hw=>by(first|exact hw|exact W7 hw (u8_in _)|exact Qw hw|exact Nb hw (u8_in _))⟩,(Aa hc hr8c)⟩
   ·exact Ag ⟨⟨zq8,fun hw=>by(first|exact hw|exact W7 hw (u8_in _)|exact Qw hw|exact Nb hw (u8_in _))⟩,(Aa hc hr1c)⟩
theorem Bj {b:List YB} {a0:Au} (a1:Ab) (hc:Bu b a0) (hn:Ar a1≤200000) (hw:wfB a1.2.2.2.1):Tot (fun r=>(Ar r.1≤Ar a1+1∧wfB r.1.2.2.2.1)∧Bu b r.2) (Bf a0 a1):=by
 unfold Bf Agp
 simp only[Aj,Al,Af,Aq,List.length_nil,List.nil_append,Nat.zero_add]
 rw[Aim _ zq0]
 simp only[An]
 refine Ae (Ba _ hc zq7) (fun r2 ⟨⟨hr21,hr22⟩,hr2c⟩=>?_)
 refine Am (fun hb3=>?_) (fun hb3=>?_)
 ·have hd3:=eq_of_beq hb3
  refine Ae (A6 _ (-1) (7) (Aa hc hr2c) zq4 zq4) (fun r3 ⟨⟨hr31,hr32⟩,hr3c⟩=>?_)
  exact Ag ⟨⟨zq8,zq9⟩,(Aa hc hr3c)⟩
 ·refine Am (fun hb7=>?_) (fun hb7=>?_)
  ·have hd7:=eq_of_beq hb7
   refine Ae (A6 _ (-1) (1) (Aa hc hr2c) zq4 zq4) (fun r4 ⟨⟨hr41,hr42⟩,hr4c⟩=>?_)
   exact Ag ⟨⟨zq8,zq9⟩,(Aa hc hr4c)⟩
  ·refine Am (fun hb11=>?_) (fun hb11=>?_)
   ·have hd11:=eq_of_beq hb11
    refine Ae (Pm _ (Aa hc hr2c) zq7) (fun r5 ⟨⟨hr51,hr52⟩,hr5c⟩=>?_)
    exact Ag ⟨⟨zq8,zq9⟩,(Aa hc hr5c)⟩
   ·refine Am (fun hb15=>?_) (fun hb15=>?_)
    ·have hd15:=eq_of_beq hb15
     refine Ae (Pm _ (Aa hc hr2c) zq7) (fun r6 ⟨⟨hr61,hr62⟩,hr6c⟩=>?_)
     exact Ag ⟨⟨zq8,zq9⟩,(Aa hc hr6c)⟩
    ·refine Am (fun hb19=>?_) (fun hb19=>?_)
     ·have hd19:=eq_of_beq hb19
      refine Ae (Pm _ (Aa hc hr2c) zq7) (fun r7 ⟨⟨hr71,hr72⟩,hr7c⟩=>?_)
      exact Ag ⟨⟨zq8,zq9⟩,(Aa hc hr7c)⟩
     ·refine Am (fun hb23=>?_) (fun hb23=>?_)
      ·have hd23:=eq_of_beq hb23
       refine Ae (Pm _ (Aa hc hr2c) zq7) (fun r8 ⟨⟨hr81,hr82⟩,hr8c⟩=>?_)
       exact Ag ⟨⟨zq8,zq9⟩,(Aa hc hr8c)⟩
      ·refine Am (fun hb27=>?_) (fun hb27=>?_)
       ·have hd27:=eq_of_beq hb27
        refine Ae (Pm _ (Aa hc hr2c) zq7) (fun r9 ⟨⟨hr91,hr92⟩,hr9c⟩=>?_)
        exact Ag ⟨⟨zq8,zq9⟩,(Aa hc hr9c)⟩
       ·refine Am (fun hb31=>?_) (fun hb31=>?_)
        ·have hd31:=eq_of_beq hb31
         refine Ae (Ba _ (Aa hc hr2c) zq7) (fun r10 ⟨⟨hr101,hr102⟩,hr10c⟩=>?_)
         exact Ag ⟨⟨zq8,zq9⟩,(Aa hc hr10c)⟩
        ·exact Ag ⟨⟨zq8,zq9⟩,(Aa hc hr2c)⟩
theorem Ajw {b:List YB} {a0:Au} (hc:Bu b a0):Tot (fun r=>(Ar r.1≤60∧wfB r.1.2.2.2.1)∧Bu b r.2) (Mr a0):=by
 unfold Mr S1
 simp only[Aj,Al,Af,Aq,List.length_nil,List.nil_append,Nat.zero_add]
 refine Ae (Be _ hc zq7) (fun r1 ⟨⟨hr11,hr12⟩,hr1c⟩=>?_)
 refine Ae (Be _ (Aa hc hr1c) zq7) (fun r2 ⟨⟨hr21,hr22⟩,hr2c⟩=>?_)
 refine Ae (Ba _ (Aa hc hr2c) zq7) (fun r3 ⟨⟨hr31,hr32⟩,hr3c⟩=>?_)
 refine Ae (Be _ (Aa hc hr3c) zq7) (fun r4 ⟨⟨hr41,hr42⟩,hr4c⟩=>?_)
 exact Ag ⟨⟨zq8,Ge⟩,(Aa hc hr4c)⟩
theorem A5q {b:List YB} {a0:Au} (hc:Bu b a0):Tot (fun r=>(Ar r.1≤110∧wfB r.1.2.2.2.1)∧Bu b r.2) (Age a0):=by
 unfold Age Agd
 simp only[Aj,Al,Af,Aq,List.length_nil,List.nil_append,Nat.zero_add]
 refine Ae (Ba _ hc zq7) (fun r1 ⟨⟨hr11,hr12⟩,hr1c⟩=>?_)
 refine Am (fun hb1=>?_) (fun hb1=>?_)
 ·have hd1:=eq_of_beq hb1
  refine Ae (Ba _ (Aa hc hr1c) zq7) (fun r2 ⟨⟨hr21,hr22⟩,hr2c⟩=>?_)
  refine Ae (Be _ (Aa hc hr2c) zq7) (fun r3 ⟨⟨hr31,hr32⟩,hr3c⟩=>?_)
  exact Ag ⟨⟨zq8,Ge⟩,(Aa hc hr3c)⟩
 ·refine Am (fun hb6=>?_) (fun hb6=>?_)
  ·have hd6:=eq_of_beq hb6
   refine Ae (Be _ (Aa hc hr1c) zq7) (fun r4 ⟨⟨hr41,hr42⟩,hr4c⟩=>?_)
   refine Ae (Be _ (Aa hc hr4c) zq7) (fun r5 ⟨⟨hr51,hr52⟩,hr5c⟩=>?_)
   refine Ae (A6 _ (0) (1000000) (Aa hc hr5c) zq4 zq4) (fun r6 ⟨⟨hr61,hr62⟩,hr6c⟩=>?_)
   refine Ae (Be _ (Aa hc hr6c) zq7) (fun r7 ⟨⟨hr71,hr72⟩,hr7c⟩=>?_)
   refine Am (fun hb12=>?_) (fun hb12=>?_)
   ·have hd12:=eq_of_beq hb12
    refine Ae (Ba _ (Aa hc hr7c) zq7) (fun r8 ⟨⟨hr81,hr82⟩,hr8c⟩=>?_)
    refine Ae (Be _ (Aa hc hr8c) zq7) (fun r9 ⟨⟨hr91,hr92⟩,hr9c⟩=>?_)
    exact Ag ⟨⟨zq8,Ge⟩,(Aa hc hr9c)⟩
   ·exact Ag ⟨⟨zq8,Ge⟩,(Aa hc hr7c)⟩
  ·refine Am (fun hb18=>?_) (fun hb18=>?_)
   ·have hd18:=eq_of_beq hb18
    refine Ae (Be _ (Aa hc hr1c) zq7) (fun r10 ⟨⟨hr101,hr102⟩,hr10c⟩=>?_)
    refine Ae (Be _ (Aa hc hr10c) zq7) (fun r11 ⟨⟨hr111,hr112⟩,hr11c⟩=>?_)
    refine Ae (A6 _ (0) (1000000) (Aa hc hr11c) zq4 zq4) (fun r12 ⟨⟨hr121,hr122⟩,hr12c⟩=>?_)
    refine Ae (Be _ (Aa hc hr12c) zq7) (fun r13 ⟨⟨hr131,hr132⟩,hr13c⟩=>?_)
    refine Am (fun hb24=>?_) (fun hb24=>?_)
    ·have hd24:=eq_of_beq hb24
     refine Ae (Ba _ (Aa hc hr13c) zq7) (fun r14 ⟨⟨hr141,hr142⟩,hr14c⟩=>?_)
     refine Ae (Be _ (Aa hc hr14c) zq7) (fun r15 ⟨⟨hr151,hr152⟩,hr15c⟩=>?_)
     exact Ag ⟨⟨zq8,Ge⟩,(Aa hc hr15c)⟩
    ·exact Ag ⟨⟨zq8,Ge⟩,(Aa hc hr13c)⟩
   ·refine Ae (Be _ (Aa hc hr1c) zq7) (fun r16 ⟨⟨hr161,hr162⟩,hr16c⟩=>?_)
    refine Ae (A6 _ (0) (4294967295) (Aa hc hr16c) zq4 zq4) (fun r17 ⟨⟨hr171,hr172⟩,hr17c⟩=>?_)
    refine Ae (A6 _ (0) (281474976710655) (Aa hc hr17c) zq4 zq4) (fun r18 ⟨⟨hr181,hr182⟩,hr18c⟩=>?_)
    refine Ae (Be _ (Aa hc hr18c) zq7) (fun r19 ⟨⟨hr191,hr192⟩,hr19c⟩=>?_)
    refine Ae (A6 _ (0) (40) (Aa hc hr19c) zq4 zq4) (fun r20 ⟨⟨hr201,hr202⟩,hr20c⟩=>?_)
    refine Am (fun hb35=>?_) (fun hb35=>?_)
    ·have hd35:=eq_of_beq hb35
     refine Am (fun hb37=>?_) (fun hb37=>?_)
     ·have hd37:=of_decide_eq_true hb37
      refine Ae (Be _ (Aa hc hr20c) zq7) (fun r21 ⟨⟨hr211,hr212⟩,hr21c⟩=>?_)
      exact Ag ⟨⟨zq8,Ge⟩,(Aa hc hr21c)⟩
     ·have hd37:=of_decide_eq_false hb37
      refine Ae (Be _ (Aa hc hr20c) zq7) (fun r22 ⟨⟨hr221,hr222⟩,hr22c⟩=>?_)
      exact Ag ⟨⟨zq8,Ge⟩,(Aa hc hr22c)⟩
    ·refine Am (fun hb44=>?_) (fun hb44=>?_)
     ·have hd44:=eq_of_beq hb44
      refine Am (fun hb46=>?_) (fun hb46=>?_)
      ·have hd46:=of_decide_eq_true hb46
       refine Ae (Be _ (Aa hc hr20c) zq7) (fun r23 ⟨⟨hr231,hr232⟩,hr23c⟩=>?_)
       exact Ag ⟨⟨zq8,Ge⟩,(Aa hc hr23c)⟩
      ·have hd46:=of_decide_eq_false hb46
       refine Ae (Be _ (Aa hc hr20c) zq7) (fun r24 ⟨⟨hr241,hr242⟩,hr24c⟩=>?_)
       exact Ag ⟨⟨zq8,Ge⟩,(Aa hc hr24c)⟩
     ·refine Am (fun hb53=>?_) (fun hb53=>?_)
      ·have hd53:=of_decide_eq_true hb53
       refine Ae (Be _ (Aa hc hr20c) zq7) (fun r25 ⟨⟨hr251,hr252⟩,hr25c⟩=>?_)
       exact Ag ⟨⟨zq8,Ge⟩,(Aa hc hr25c)⟩
      ·have hd53:=of_decide_eq_false hb53
       refine Ae (Be _ (Aa hc hr20c) zq7) (fun r26 ⟨⟨hr261,hr262⟩,hr26c⟩=>?_)
       exact Ag ⟨⟨zq8,Ge⟩,(Aa hc hr26c)⟩
theorem Amk {b:List YB} {a0:Au} (hc:Bu b a0):Tot (fun r=>(Ar r.1≤420∧wfB r.1.2.2.2.1)∧Bu b r.2) (R9 a0):=by
 unfold R9 Akl
 simp only[Aj,Al,Af,Aq,List.length_nil,List.nil_append,Nat.zero_add]
 refine Ae (A5q hc) (fun r1 ⟨⟨hr11,hr12⟩,hr1c⟩=>?_)
 refine Ae (Ba _ (Aa hc hr1c) zq7) (fun r2 ⟨⟨hr21,hr22⟩,hr2c⟩=>?_)
 refine Am (fun hb2=>?_) (fun hb2=>?_)
 ·have hd2:=eq_of_beq hb2
  refine Ae (Ba _ (Aa hc hr2c) zq7) (fun r3 ⟨⟨hr31,hr32⟩,hr3c⟩=>?_)
  exact Ag ⟨⟨zq8,Ge⟩,(Aa hc hr3c)⟩
 ·refine Am (fun hb6=>?_) (fun hb6=>?_)
  ·have hd6:=eq_of_beq hb6
   refine Ae (A6 _ (-1) (10) (Aa hc hr2c) zq4 zq4) (fun r4 ⟨⟨hr41,hr42⟩,hr4c⟩=>?_)
   exact Ag ⟨⟨zq8,Ge⟩,(Aa hc hr4c)⟩
  ·refine Am (fun hb10=>?_) (fun hb10=>?_)
   ·have hd10:=eq_of_beq hb10
    refine Ae (A6 _ (0) (13) (Aa hc hr2c) zq4 zq4) (fun r5 ⟨⟨hr51,hr52⟩,hr5c⟩=>?_)
    refine Ae (Be _ (Aa hc hr5c) zq7) (fun r6 ⟨⟨hr61,hr62⟩,hr6c⟩=>?_)
    exact Ag ⟨⟨zq8,Ge⟩,(Aa hc hr6c)⟩
   ·refine Am (fun hb15=>?_) (fun hb15=>?_)
    ·have hd15:=eq_of_beq hb15
     refine Ae (A6 _ (0) (13) (Aa hc hr2c) zq4 zq4) (fun r7 ⟨⟨hr71,hr72⟩,hr7c⟩=>?_)
     refine Ae (Be _ (Aa hc hr7c) zq7) (fun r8 ⟨⟨hr81,hr82⟩,hr8c⟩=>?_)
     exact Ag ⟨⟨zq8,Ge⟩,(Aa hc hr8c)⟩
    ·refine Am (fun hb20=>?_) (fun hb20=>?_)
     ·have hd20:=eq_of_beq hb20
      refine Ae (A6 _ (-1) (1000001) (Aa hc hr2c) zq4 zq4) (fun r9 ⟨⟨hr91,hr92⟩,hr9c⟩=>?_)
      exact Ag ⟨⟨zq8,Ge⟩,(Aa hc hr9c)⟩
     ·refine Am (fun hb24=>?_) (fun hb24=>?_)
      ·have hd24:=eq_of_beq hb24
       refine Ae (A6 _ (0) (16) (Aa hc hr2c) zq4 zq4) (fun r10 ⟨⟨hr101,hr102⟩,hr10c⟩=>?_)
       refine Ae (Be _ (Aa hc hr10c) zq7) (fun r11 ⟨⟨hr111,hr112⟩,hr11c⟩=>?_)
       exact Ag ⟨⟨zq8,Ge⟩,(Aa hc hr11c)⟩
      ·refine Am (fun hb29=>?_) (fun hb29=>?_)
       ·have hd29:=eq_of_beq hb29
        refine Ae (A6 _ (0) (16) (Aa hc hr2c) zq4 zq4) (fun r12 ⟨⟨hr121,hr122⟩,hr12c⟩=>?_)
        refine Ae (Be _ (Aa hc hr12c) zq7) (fun r13 ⟨⟨hr131,hr132⟩,hr13c⟩=>?_)
        exact Ag ⟨⟨zq8,Ge⟩,(Aa hc hr13c)⟩
       ·refine Am (fun hb34=>?_) (fun hb34=>?_)
        ·have hd34:=eq_of_beq hb34
         refine Ae (A6 _ (-1) (4294967296) (Aa hc hr2c) zq4 zq4) (fun r14 ⟨⟨hr141,hr142⟩,hr14c⟩=>?_)
         exact Ag ⟨⟨zq8,Ge⟩,(Aa hc hr14c)⟩
        ·refine Am (fun hb38=>?_) (fun hb38=>?_)
         ·have hd38:=eq_of_beq hb38
          refine Ae (A6 _ (-1) (281474976710656) (Aa hc hr2c) zq4 zq4) (fun r15 ⟨⟨hr151,hr152⟩,hr15c⟩=>?_)
          exact Ag ⟨⟨zq8,Ge⟩,(Aa hc hr15c)⟩
         ·refine Am (fun hb42=>?_) (fun hb42=>?_)
          ·have hd42:=eq_of_beq hb42
           refine Ae (A6 _ (0) (41) (Aa hc hr2c) zq4 zq4) (fun r16 ⟨⟨hr161,hr162⟩,hr16c⟩=>?_)
           refine Ae (Be _ (Aa hc hr16c) zq7) (fun r17 ⟨⟨hr171,hr172⟩,hr17c⟩=>?_)
           exact Ag ⟨⟨zq8,Ge⟩,(Aa hc hr17c)⟩
          ·refine Am (fun hb47=>?_) (fun hb47=>?_)
           ·have hd47:=eq_of_beq hb47
            refine Ae (A6 _ (0) (17) (Aa hc hr2c) zq4 zq4) (fun r18 ⟨⟨hr181,hr182⟩,hr18c⟩=>?_)
            refine Ae (Be _ (Aa hc hr18c) zq7) (fun r19 ⟨⟨hr191,hr192⟩,hr19c⟩=>?_)
            exact Ag ⟨⟨zq8,Ge⟩,(Aa hc hr19c)⟩
           ·exact Ag ⟨⟨zq8,Ge⟩,(Aa hc hr2c)⟩
end
end Go.Proofs.YtmhhajdeafijmaaGreat

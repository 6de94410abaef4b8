/-
  That the program and the reference answer alike, in plain terms, and that the laws answer true.
-/
import Derived.Test.YtjlblagmjlmglaaGreatL40
namespace Go.Proofs.YtjlblagmjlmglaaGreat
open Go.RowKit
set_option linter.unusedVariables false
set_option linter.unusedSimpArgs false
set_option maxRecDepth 100000
set_option maxHeartbeats 8000000
noncomputable section
theorem Qv (a b c:YI):Tot (fun _=>True) (Bd a b c):=by rw[Bv];exact Ak trivial
theorem A2d (a:Bg):Tot (fun _=>True) (Kf a):=by rw[Li];exact Ak trivial
theorem Aa9 (n:YI) (k:YBs):Tot (fun r=>Bm r≤64) (Fe n k):=by
 obtain⟨r,_,h2,h3⟩:=Ap7 n k
 exact⟨r,h2,h3⟩
theorem Azz (a0:YI):Tot (fun _=>True) (Ag0 a0):=by
 unfold Ag0 Ao1
 simp only[Ai,Aj,Ad,Ap,List.length_nil,List.nil_append,Nat.zero_add]
 refine Am (Qv _ _ _) (fun r1 _=>?_)
 refine As (fun hb1=>?_) (fun hb1=>?_)
 ·exact Ak trivial
 ·exact Ak trivial
theorem Ph (a0:YI):Tot (fun _=>True) (Cj a0):=by
 unfold Cj G8
 simp only[Ai,Aj,Ad,Ap,List.length_nil,List.nil_append,Nat.zero_add]
 refine Am (Qv _ _ _) (fun r1 _=>?_)
 refine As (fun hb1=>?_) (fun hb1=>?_)
 ·exact Ak trivial
 ·exact Ak trivial
theorem Aue (a0:Bg) (a1:YI):Tot (fun _=>True) (Dm a0 a1):=by
 unfold Dm Es
 simp only[Ai,Aj,Ad,Ap,List.length_nil,List.nil_append,Nat.zero_add]
 refine Am (A2d _) (fun r1 _=>?_)
 refine As (fun hb1=>?_) (fun hb1=>?_)
 ·refine As (fun hb2=>?_) (fun hb2=>?_)
  ·refine Am (Qv _ _ _) (fun r2 _=>?_)
   refine As (fun hb4=>?_) (fun hb4=>?_)
   ·exact Ak trivial
   ·exact Ak trivial
  ·exact Ak trivial
 ·exact Ak trivial
theorem To (a0:Bg) (a1:YI):Tot (fun _=>True) (Ce a0 a1):=by
 unfold Ce Gc
 simp only[Ai,Aj,Ad,Ap,List.length_nil,List.nil_append,Nat.zero_add]
 refine Am (Aue _ _) (fun r1 _=>?_)
 refine As (fun hb1=>?_) (fun hb1=>?_)
 ·exact Ak trivial
 ·refine As (fun hb3=>?_) (fun hb3=>?_)
  ·have hd3:=eq_of_beq hb3
   exact Ak trivial
  ·refine As (fun hb6=>?_) (fun hb6=>?_)
   ·have hd6:=of_decide_eq_true hb6
    exact Ak trivial
   ·have hd6:=of_decide_eq_false hb6
    exact Ak trivial
theorem A74 {b:List YB} {a0:Aw} (hc:Cd b a0):Tot (fun r=>Cd b r.2) (Ala a0):=by
 unfold Ala Akf
 simp only[Ai,Aj,Ad,Ap,List.length_nil,List.nil_append,Nat.zero_add]
 refine Am (A7 _ (-9223372036854775808) (9223372036854775807) hc zq4 zq4) (fun r1 ⟨⟨hr11,hr12⟩,hr1c⟩=>?_)
 exact Ak (Ag hc hr1c)
theorem A5g {b:List YB} {a0:Aw} (hc:Cd b a0):Tot (fun r=>Cd b r.2) (Ag8 a0):=by
 unfold Ag8 Af7
 simp only[Ai,Aj,Ad,Ap,List.length_nil,List.nil_append,Nat.zero_add]
 refine Am (Cz _ hc zq7) (fun r1 hr1c=>?_)
 refine As (fun hb1=>?_) (fun hb1=>?_)
 ·refine Am (Bj _ (Ag hc hr1c) zq7) (fun r2 ⟨⟨hr21,hr22⟩,hr2c⟩=>?_)
  refine Am (Mb (Ag hc hr2c)) (fun r3 ⟨⟨hr31,hr32⟩,hr3c⟩=>?_)
  refine Am (Bj _ (Ag hc hr3c) zq7) (fun r4 ⟨⟨hr41,hr42⟩,hr4c⟩=>?_)
  exact Ak (Ag hc hr4c)
 ·refine Am (Bj _ (Ag hc hr1c) zq7) (fun r5 ⟨⟨hr51,hr52⟩,hr5c⟩=>?_)
  refine Am (Azz _) (fun r6 _=>?_)
  exact Ak (Ag hc hr5c)
theorem A75 {b:List YB} {a0:Aw} (hc:Cd b a0):Tot (fun r=>Cd b r.2) (Alb a0):=by
 unfold Alb Akg
 simp only[Ai,Aj,Ad,Ap,List.length_nil,List.nil_append,Nat.zero_add]
 refine Am (A5g hc) (fun r1 hr1c=>?_)
 refine Am (Bj _ (Ag hc hr1c) zq7) (fun r2 ⟨⟨hr21,hr22⟩,hr2c⟩=>?_)
 refine As (fun hb2=>?_) (fun hb2=>?_)
 ·have hd2:=eq_of_beq hb2
  refine Am (A74 (Ag hc hr2c)) (fun r3 hr3c=>?_)
  exact Ak (Ag hc hr3c)
 ·refine As (fun hb6=>?_) (fun hb6=>?_)
  ·have hd6:=eq_of_beq hb6
   refine Am (A7 _ (-1) (65536) (Ag hc hr2c) zq4 zq4) (fun r4 ⟨⟨hr41,hr42⟩,hr4c⟩=>?_)
   exact Ak (Ag hc hr4c)
  ·exact Ak (Ag hc hr2c)
theorem Axs {b:List YB} {a0:Aw} (hc:Cd b a0):Tot (fun r=>(Ar r.1≤60∧wfB r.1.2.2.2.1)∧Cd b r.2) (Tk a0):=by
 unfold Tk S3
 simp only[Ai,Aj,Ad,Ap,List.length_nil,List.nil_append,Nat.zero_add]
 refine Am (Ba _ hc zq7) (fun r1 ⟨⟨hr11,hr12⟩,hr1c⟩=>?_)
 refine Am (Ba _ (Ag hc hr1c) zq7) (fun r2 ⟨⟨hr21,hr22⟩,hr2c⟩=>?_)
 refine Am (Bj _ (Ag hc hr2c) zq7) (fun r3 ⟨⟨hr31,hr32⟩,hr3c⟩=>?_)
 refine Am (Ba _ (Ag hc hr3c) zq7) (fun r4 ⟨⟨hr41,hr42⟩,hr4c⟩=>?_)
 exact Ak ⟨⟨zq8,zq9⟩,(Ag hc hr4c)⟩
theorem A5h {b:List YB} {a0:Aw} (hc:Cd b a0):Tot (fun r=>(Ar r.1≤110∧wfB r.1.2.2.2.1)∧Cd b r.2) (Ag9 a0):=by
 unfold Ag9 Af8
 simp only[Ai,Aj,Ad,Ap,List.length_nil,List.nil_append,Nat.zero_add]
 refine Am (Bj _ hc zq7) (fun r1 ⟨⟨hr11,hr12⟩,hr1c⟩=>?_)
 refine As (fun hb1=>?_) (fun hb1=>?_)
 ·have hd1:=eq_of_beq hb1
  refine Am (Bj _ (Ag hc hr1c) zq7) (fun r2 ⟨⟨hr21,hr22⟩,hr2c⟩=>?_)
  refine Am (Ba _ (Ag hc hr2c) zq7) (fun r3 ⟨⟨hr31,hr32⟩,hr3c⟩=>?_)
  exact Ak ⟨⟨zq8,zq9⟩,(Ag hc hr3c)⟩
 ·refine As (fun hb6=>?_) (fun hb6=>?_)
  ·have hd6:=eq_of_beq hb6
   refine Am (Ba _ (Ag hc hr1c) zq7) (fun r4 ⟨⟨hr41,hr42⟩,hr4c⟩=>?_)
   refine Am (Ba _ (Ag hc hr4c) zq7) (fun r5 ⟨⟨hr51,hr52⟩,hr5c⟩=>?_)
   refine Am (A7 _ (0) (1000000) (Ag hc hr5c) zq4 zq4) (fun r6 ⟨⟨hr61,hr62⟩,hr6c⟩=>?_)
   refine Am (Ba _ (Ag hc hr6c) zq7) (fun r7 ⟨⟨hr71,hr72⟩,hr7c⟩=>?_)
   refine As (fun hb12=>?_) (fun hb12=>?_)
   ·have hd12:=eq_of_beq hb12
    refine Am (Bj _ (Ag hc hr7c) zq7) (fun r8 ⟨⟨hr81,hr82⟩,hr8c⟩=>?_)
    refine Am (Ba _ (Ag hc hr8c) zq7) (fun r9 ⟨⟨hr91,hr92⟩,hr9c⟩=>?_)
    exact Ak ⟨⟨zq8,zq9⟩,(Ag hc hr9c)⟩
   ·exact Ak ⟨⟨zq8,zq9⟩,(Ag hc hr7c)⟩
  ·refine As (fun hb18=>?_) (fun hb18=>?_)
   ·have hd18:=eq_of_beq hb18
    refine Am (Ba _ (Ag hc hr1c) zq7) (fun r10 ⟨⟨hr101,hr102⟩,hr10c⟩=>?_)
    refine Am (Ba _ (Ag hc hr10c) zq7) (fun r11 ⟨⟨hr111,hr112⟩,hr11c⟩=>?_)
    refine Am (A7 _ (0) (1000000) (Ag hc hr11c) zq4 zq4) (fun r12 ⟨⟨hr121,hr122⟩,hr12c⟩=>?_)
    refine Am (Ba _ (Ag hc hr12c) zq7) (fun r13 ⟨⟨hr131,hr132⟩,hr13c⟩=>?_)
    refine As (fun hb24=>?_) (fun hb24=>?_)
    ·have hd24:=eq_of_beq hb24
     refine Am (Bj _ (Ag hc hr13c) zq7) (fun r14 ⟨⟨hr141,hr142⟩,hr14c⟩=>?_)
     refine Am (Ba _ (Ag hc hr14c) zq7) (fun r15 ⟨⟨hr151,hr152⟩,hr15c⟩=>?_)
     exact Ak ⟨⟨zq8,zq9⟩,(Ag hc hr15c)⟩
    ·exact Ak ⟨⟨zq8,zq9⟩,(Ag hc hr13c)⟩
   ·refine Am (Ba _ (Ag hc hr1c) zq7) (fun r16 ⟨⟨hr161,hr162⟩,hr16c⟩=>?_)
    refine Am (A7 _ (0) (4294967295) (Ag hc hr16c) zq4 zq4) (fun r17 ⟨⟨hr171,hr172⟩,hr17c⟩=>?_)
    refine Am (A7 _ (0) (281474976710655) (Ag hc hr17c) zq4 zq4) (fun r18 ⟨⟨hr181,hr182⟩,hr18c⟩=>?_)
    refine Am (Ba _ (Ag hc hr18c) zq7) (fun r19 ⟨⟨hr191,hr192⟩,hr19c⟩=>?_)
    refine Am (A7 _ (0) (40) (Ag hc hr19c) zq4 zq4) (fun r20 ⟨⟨hr201,hr202⟩,hr20c⟩=>?_)
    refine As (fun hb35=>?_) (fun hb35=>?_)
    ·have hd35:=eq_of_beq hb35
     refine As (fun hb37=>?_) (fun hb37=>?_)
     ·have hd37:=of_decide_eq_true hb37
      refine Am (Ba _ (Ag hc hr20c) zq7) (fun r21 ⟨⟨hr211,hr212⟩,hr21c⟩=>?_)
      exact Ak ⟨⟨zq8,zq9⟩,(Ag hc hr21c)⟩
     ·have hd37:=of_decide_eq_false hb37
      refine Am (Ba _ (Ag hc hr20c) zq7) (fun r22 ⟨⟨hr221,hr222⟩,hr22c⟩=>?_)
      exact Ak ⟨⟨zq8,zq9⟩,(Ag hc hr22c)⟩
    ·refine As (fun hb44=>?_) (fun hb44=>?_)
     ·have hd44:=eq_of_beq hb44
      refine As (fun hb46=>?_) (fun hb46=>?_)
      ·have hd46:=of_decide_eq_true hb46
       refine Am (Ba _ (Ag hc hr20c) zq7) (fun r23 ⟨⟨hr231,hr232⟩,hr23c⟩=>?_)
       exact Ak ⟨⟨zq8,zq9⟩,(Ag hc hr23c)⟩
      ·have hd46:=of_decide_eq_false hb46
       refine Am (Ba _ (Ag hc hr20c) zq7) (fun r24 ⟨⟨hr241,hr242⟩,hr24c⟩=>?_)
       exact Ak ⟨⟨zq8,zq9⟩,(Ag hc hr24c)⟩
     ·refine As (fun hb53=>?_) (fun hb53=>?_)
      ·have hd53:=of_decide_eq_true hb53
       refine Am (Ba _ (Ag hc hr20c) zq7) (fun r25 ⟨⟨hr251,hr252⟩,hr25c⟩=>?_)
       exact Ak ⟨⟨zq8,zq9⟩,(Ag hc hr25c)⟩
      ·have hd53:=of_decide_eq_false hb53
       refine Am (Ba _ (Ag hc hr20c) zq7) (fun r26 ⟨⟨hr261,hr262⟩,hr26c⟩=>?_)
       exact Ak ⟨⟨zq8,zq9⟩,(Ag hc hr26c)⟩
theorem A76 {b:List YB} {a0:Aw} (hc:Cd b a0):Tot (fun r=>(Ar r.1≤420∧wfB r.1.2.2.2.1)∧Cd b r.2) (Alc a0):=by
 unfold Alc Akh
 simp only[Ai,Aj,Ad,Ap,List.length_nil,List.nil_append,Nat.zero_add]
 refine Am (A5h hc) (fun r1 ⟨⟨hr11,hr12⟩,hr1c⟩=>?_)
 refine Am (Bj _ (Ag hc hr1c) zq7) (fun r2 ⟨⟨hr21,hr22⟩,hr2c⟩=>?_)
 refine As (fun hb2=>?_) (fun hb2=>?_)
 ·have hd2:=eq_of_beq hb2
  refine Am (Bj _ (Ag hc hr2c) zq7) (fun r3 ⟨⟨hr31,hr32⟩,hr3c⟩=>?_)
  exact Ak ⟨⟨zq8,zq9⟩,(Ag hc hr3c)⟩
 ·refine As (fun hb6=>?_) (fun hb6=>?_)
  ·have hd6:=eq_of_beq hb6
   refine Am (A7 _ (-1) (10) (Ag hc hr2c) zq4 zq4) (fun r4 ⟨⟨hr41,hr42⟩,hr4c⟩=>?_)
   exact Ak ⟨⟨zq8,zq9⟩,(Ag hc hr4c)⟩
  ·refine As (fun hb10=>?_) (fun hb10=>?_)
   ·have hd10:=eq_of_beq hb10
    refine Am (A7 _ (0) (13) (Ag hc hr2c) zq4 zq4) (fun r5 ⟨⟨hr51,hr52⟩,hr5c⟩=>?_)
    refine Am (Ba _ (Ag hc hr5c) zq7) (fun r6 ⟨⟨hr61,hr62⟩,hr6c⟩=>?_)
    exact Ak ⟨⟨zq8,zq9⟩,(Ag hc hr6c)⟩
   ·refine As (fun hb15=>?_) (fun hb15=>?_)
    ·have hd15:=eq_of_beq hb15
     refine Am (A7 _ (0) (13) (Ag hc hr2c) zq4 zq4) (fun r7 ⟨⟨hr71,hr72⟩,hr7c⟩=>?_)
     refine Am (Ba _ (Ag hc hr7c) zq7) (fun r8 ⟨⟨hr81,hr82⟩,hr8c⟩=>?_)
     exact Ak ⟨⟨zq8,zq9⟩,(Ag hc hr8c)⟩
    ·refine As (fun hb20=>?_) (fun hb20=>?_)
     ·have hd20:=eq_of_beq hb20
      refine Am (A7 _ (-1) (1000001) (Ag hc hr2c) zq4 zq4) (fun r9 ⟨⟨hr91,hr92⟩,hr9c⟩=>?_)
      exact Ak ⟨⟨zq8,zq9⟩,(Ag hc hr9c)⟩
     ·refine As (fun hb24=>?_) (fun hb24=>?_)
      ·have hd24:=eq_of_beq hb24
       refine Am (A7 _ (0) (16) (Ag hc hr2c) zq4 zq4) (fun r10 ⟨⟨hr101,hr102⟩,hr10c⟩=>?_)
       refine Am (Ba _ (Ag hc hr10c) zq7) (fun r11 ⟨⟨hr111,hr112⟩,hr11c⟩=>?_)
       exact Ak ⟨⟨zq8,zq9⟩,(Ag hc hr11c)⟩
      ·refine As (fun hb29=>?_) (fun hb29=>?_)
       ·have hd29:=eq_of_beq hb29
        refine Am (A7 _ (0) (16) (Ag hc hr2c) zq4 zq4) (fun r12 ⟨⟨hr121,hr122⟩,hr12c⟩=>?_)
        refine Am (Ba _ (Ag hc hr12c) zq7) (fun r13 ⟨⟨hr131,hr132⟩,hr13c⟩=>?_)
        exact Ak ⟨⟨zq8,zq9⟩,(Ag hc hr13c)⟩
       ·refine As (fun hb34=>?_) (fun hb34=>?_)
        ·have hd34:=eq_of_beq hb34
         refine Am (A7 _ (-1) (4294967296) (Ag hc hr2c) zq4 zq4) (fun r14 ⟨⟨hr141,hr142⟩,hr14c⟩=>?_)
         exact Ak ⟨⟨zq8,zq9⟩,(Ag hc hr14c)⟩
        ·refine As (fun hb38=>?_) (fun hb38=>?_)
         ·have hd38:=eq_of_beq hb38
          refine Am (A7 _ (-1) (281474976710656) (Ag hc hr2c) zq4 zq4) (fun r15 ⟨⟨hr151,hr152⟩,hr15c⟩=>?_)
          exact Ak ⟨⟨zq8,zq9⟩,(Ag hc hr15c)⟩
         ·refine As (fun hb42=>?_) (fun hb42=>?_)
          ·have hd42:=eq_of_beq hb42
           refine Am (A7 _ (0) (41) (Ag hc hr2c) zq4 zq4) (fun r16 ⟨⟨hr161,hr162⟩,hr16c⟩=>?_)
           refine Am (Ba _ (Ag hc hr16c) zq7) (fun r17 ⟨⟨hr171,hr172⟩,hr17c⟩=>?_)
           exact Ak ⟨⟨zq8,zq9⟩,(Ag hc hr17c)⟩
          ·refine As (fun hb47=>?_) (fun hb47=>?_)
           ·have hd47:=eq_of_beq hb47
            refine Am (A7 _ (0) (17) (Ag hc hr2c) zq4 zq4) (fun r18 ⟨⟨hr181,hr182⟩,hr18c⟩=>?_)
            refine Am (Ba _ (Ag hc hr18c) zq7) (fun r19 ⟨⟨hr191,hr192⟩,hr19c⟩=>?_)
            exact Ak ⟨⟨zq8,zq9⟩,(Ag hc hr19c)⟩
           ·exact Ak ⟨⟨zq8,zq9⟩,(Ag hc hr2c)⟩
end
end Go.Proofs.YtjlblagmjlmglaaGreat

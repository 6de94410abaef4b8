/-
  That the program and the reference answer alike, in plain terms, and that the laws answer true.
-/
import Derived.Test.YtmhhajdeafijmaaGreatL46
namespace Go.Proofs.YtmhhajdeafijmaaGreat
open Go.RowKit
set_option linter.unusedVariables false
set_option linter.unusedSimpArgs false
set_option maxRecDepth 100000
set_option maxHeartbeats 16000000
noncomputable section
theorem As4 {b:List YB} {a0:Au} (hc:Bu b a0):Tot (fun r=>Bu b r.2) (Wi a0):=by
 unfold Wi Agh
 simp only[Aj,Al,Af,Aq,List.length_nil,List.nil_append,Nat.zero_add]
 refine Ae (A6 _ (0) (1000000) hc zq4 zq4) (fun r1 ⟨⟨hr11,hr12⟩,hr1c⟩=>?_)
 refine Ae (Ao5 _ (Aa hc hr1c)) (fun r2 hr2c=>?_)
 refine Ae (Ba _ (Aa hc hr2c) zq7) (fun r3 ⟨⟨hr31,hr32⟩,hr3c⟩=>?_)
 refine Am (fun hb3=>?_) (fun hb3=>?_)
 ·have hd3:=eq_of_beq hb3
  refine Ae (A6 _ (-1) (1000009) (Aa hc hr3c) zq4 zq4) (fun r4 ⟨⟨hr41,hr42⟩,hr4c⟩=>?_)
  exact Ag (Aa hc hr4c)
 ·refine Am (fun hb7=>?_) (fun hb7=>?_)
  ·have hd7:=eq_of_beq hb7
   refine Ae (A6 _ (0) (16) (Aa hc hr3c) zq4 zq4) (fun r5 ⟨⟨hr51,hr52⟩,hr5c⟩=>?_)
   exact Ag (Aa hc hr5c)
  ·refine Am (fun hb11=>?_) (fun hb11=>?_)
   ·have hd11:=eq_of_beq hb11
    refine Ae (A6 _ (0) (6) (Aa hc hr3c) zq4 zq4) (fun r6 ⟨⟨hr61,hr62⟩,hr6c⟩=>?_)
    exact Ag (Aa hc hr6c)
   ·refine Am (fun hb15=>?_) (fun hb15=>?_)
    ·have hd15:=eq_of_beq hb15
     exact Ag (Aa hc hr3c)
    ·exact Ag (Aa hc hr3c)
theorem A5w {b:List YB} {a0:Au} (hc:Bu b a0):Tot (fun r=>(Ao r.1≤30000∧wfB (C0 r.1).2.1)∧Bu b r.2) (Agj a0):=by
 unfold Agj Agi
 simp only[Aj,Al,Af,Aq,List.length_nil,List.nil_append,Nat.zero_add]
 refine Ae (A2u hc) (fun r1 ⟨⟨hr11,hr12⟩,hr1c⟩=>?_)
 refine Ae (Ba _ (Aa hc hr1c) zq7) (fun r2 ⟨⟨hr21,hr22⟩,hr2c⟩=>?_)
 refine Am (fun hb2=>?_) (fun hb2=>?_)
 ·have hd2:=eq_of_beq hb2
  refine Ae (A6 _ (0) (10) (Aa hc hr2c) zq4 zq4) (fun r3 ⟨⟨hr31,hr32⟩,hr3c⟩=>?_)
  exact Ag ⟨⟨Nat.le_trans (Bcr r1.1 r3.1) zq0,Eg⟩,(Aa hc hr3c)⟩
 ·refine Am (fun hb6=>?_) (fun hb6=>?_)
  ·have hd6:=eq_of_beq hb6
   refine Ae (A6 _ (0) (33) (Aa hc hr2c) zq4 zq4) (fun r4 ⟨⟨hr41,hr42⟩,hr4c⟩=>?_)
   refine Ae (Be _ (Aa hc hr4c) zq7) (fun r5 ⟨⟨hr51,hr52⟩,hr5c⟩=>?_)
   exact Ag ⟨⟨Nat.le_trans (Bcs r1.1 r5.1) zq0,Eg⟩,(Aa hc hr5c)⟩
  ·refine Am (fun hb11=>?_) (fun hb11=>?_)
   ·have hd11:=eq_of_beq hb11
    refine Ae (A8c (Aa hc hr2c)) (fun r6 hr6c=>?_)
    exact Ag ⟨⟨Nat.le_trans (Bct r1.1 r6.1) zq0,Eg⟩,(Aa hc hr6c)⟩
   ·refine Am (fun hb15=>?_) (fun hb15=>?_)
    ·have hd15:=eq_of_beq hb15
     refine Ae (Ba _ (Aa hc hr2c) zq7) (fun r7 ⟨⟨hr71,hr72⟩,hr7c⟩=>?_)
     exact Ag ⟨⟨Nat.le_trans (Bcu r1.1 r7.1) zq0,Eg⟩,(Aa hc hr7c)⟩
    ·refine Am (fun hb19=>?_) (fun hb19=>?_)
     ·have hd19:=eq_of_beq hb19
      refine Ae (A6 _ (0) (12) (Aa hc hr2c) zq4 zq4) (fun r8 ⟨⟨hr81,hr82⟩,hr8c⟩=>?_)
      refine Ae (Be _ (Aa hc hr8c) zq7) (fun r9 ⟨⟨hr91,hr92⟩,hr9c⟩=>?_)
      exact Ag ⟨⟨Nat.le_trans (Bcv r1.1 r9.1) zq0,Eg⟩,(Aa hc hr9c)⟩
     ·refine Am (fun hb24=>?_) (fun hb24=>?_)
      ·have hd24:=eq_of_beq hb24
       refine Ae (Amk (Aa hc hr2c)) (fun r10 ⟨⟨hr101,hr102⟩,hr10c⟩=>?_)
       exact Ag ⟨⟨Nat.le_trans (Bcw r1.1 r10.1) zq0,Eg⟩,(Aa hc hr10c)⟩
      ·refine Am (fun hb28=>?_) (fun hb28=>?_)
       ·have hd28:=eq_of_beq hb28
        refine Ae (A5u (Aa hc hr2c)) (fun r11 ⟨⟨hr111,hr112⟩,hr11c⟩=>?_)
        exact Ag ⟨⟨Nat.le_trans (Bcx r1.1 r11.1) zq0,Eg⟩,(Aa hc hr11c)⟩
       ·refine Am (fun hb32=>?_) (fun hb32=>?_)
        ·have hd32:=eq_of_beq hb32
         refine Ae (As4 (Aa hc hr2c)) (fun r12 hr12c=>?_)
         exact Ag ⟨⟨Nat.le_trans (A0a r1.1 r12.1) zq0,Eg⟩,(Aa hc hr12c)⟩
        ·refine Am (fun hb36=>?_) (fun hb36=>?_)
         ·have hd36:=eq_of_beq hb36
          refine Ae (As4 (Aa hc hr2c)) (fun r13 hr13c=>?_)
          exact Ag ⟨⟨Nat.le_trans (Bcy r1.1 r13.1) zq0,Eg⟩,(Aa hc hr13c)⟩
         ·refine Am (fun hb40=>?_) (fun hb40=>?_)
          ·have hd40:=eq_of_beq hb40
           refine Ae (A6 _ (-1) (1000001) (Aa hc hr2c) zq4 zq4) (fun r14 ⟨⟨hr141,hr142⟩,hr14c⟩=>?_)
           exact Ag ⟨⟨Nat.le_trans (Bbk r1.1 r14.1) zq0,Eg⟩,(Aa hc hr14c)⟩
          ·refine Am (fun hb44=>?_) (fun hb44=>?_)
           ·have hd44:=eq_of_beq hb44
            exact Ag ⟨⟨Nat.le_trans (Bbl r1.1) zq0,Eg⟩,(Aa hc hr2c)⟩
           ·exact Ag ⟨⟨Pb,Eg⟩,(Aa hc hr2c)⟩

end
end Go.Proofs.YtmhhajdeafijmaaGreat

/-
  That the program and the reference answer alike, in plain terms, and that the laws answer true.
-/
import Derived.Test.YtjlblagmjlmglaaGreatL46
namespace Go.Proofs.YtjlblagmjlmglaaGreat
open Go.RowKit
set_option linter.unusedVariables false
set_option linter.unusedSimpArgs false
set_option maxRecDepth 100000
set_option maxHeartbeats 16000000
noncomputable section
theorem Ast {b:List YB} {a0:Aw} (hc:Cd b a0):Tot (fun r=>Cd b r.2) (Wo a0):=by
 unfold Wo Aga
 simp only[Ai,Aj,Ad,Ap,List.length_nil,List.nil_append,Nat.zero_add]
 refine Am (A7 _ (0) (1000000) hc zq4 zq4) (fun r1 ⟨⟨hr11,hr12⟩,hr1c⟩=>?_)
 refine Am (Aoo _ (Ag hc hr1c)) (fun r2 hr2c=>?_)
 refine Am (Bj _ (Ag hc hr2c) zq7) (fun r3 ⟨⟨hr31,hr32⟩,hr3c⟩=>?_)
 refine As (fun hb3=>?_) (fun hb3=>?_)
 ·have hd3:=eq_of_beq hb3
  refine Am (A7 _ (-1) (1000009) (Ag hc hr3c) zq4 zq4) (fun r4 ⟨⟨hr41,hr42⟩,hr4c⟩=>?_)
  exact Ak (Ag hc hr4c)
 ·refine As (fun hb7=>?_) (fun hb7=>?_)
  ·have hd7:=eq_of_beq hb7
   refine Am (A7 _ (0) (16) (Ag hc hr3c) zq4 zq4) (fun r5 ⟨⟨hr51,hr52⟩,hr5c⟩=>?_)
   exact Ak (Ag hc hr5c)
  ·refine As (fun hb11=>?_) (fun hb11=>?_)
   ·have hd11:=eq_of_beq hb11
    refine Am (A7 _ (0) (6) (Ag hc hr3c) zq4 zq4) (fun r6 ⟨⟨hr61,hr62⟩,hr6c⟩=>?_)
    exact Ak (Ag hc hr6c)
   ·refine As (fun hb15=>?_) (fun hb15=>?_)
    ·have hd15:=eq_of_beq hb15
     exact Ak (Ag hc hr3c)
    ·exact Ak (Ag hc hr3c)
theorem A5n {b:List YB} {a0:Aw} (hc:Cd b a0):Tot (fun r=>(An r.1≤30000∧wfB (Cw r.1).2.1)∧Cd b r.2) (Ahb a0):=by
 unfold Ahb Agb
 simp only[Ai,Aj,Ad,Ap,List.length_nil,List.nil_append,Nat.zero_add]
 refine Am (A2h hc) (fun r1 ⟨⟨hr11,hr12⟩,hr1c⟩=>?_)
 refine Am (Bj _ (Ag hc hr1c) zq7) (fun r2 ⟨⟨hr21,hr22⟩,hr2c⟩=>?_)
 refine As (fun hb2=>?_) (fun hb2=>?_)
 ·have hd2:=eq_of_beq hb2
  refine Am (A7 _ (0) (10) (Ag hc hr2c) zq4 zq4) (fun r3 ⟨⟨hr31,hr32⟩,hr3c⟩=>?_)
  exact Ak ⟨⟨Nat.le_trans (Bcq r1.1 r3.1) zq0,I0⟩,(Ag hc hr3c)⟩
 ·refine As (fun hb6=>?_) (fun hb6=>?_)
  ·have hd6:=eq_of_beq hb6
   refine Am (A7 _ (0) (33) (Ag hc hr2c) zq4 zq4) (fun r4 ⟨⟨hr41,hr42⟩,hr4c⟩=>?_)
   refine Am (Ba _ (Ag hc hr4c) zq7) (fun r5 ⟨⟨hr51,hr52⟩,hr5c⟩=>?_)
   exact Ak ⟨⟨Nat.le_trans (Bcr r1.1 r5.1) zq0,I0⟩,(Ag hc hr5c)⟩
  ·refine As (fun hb11=>?_) (fun hb11=>?_)
   ·have hd11:=eq_of_beq hb11
    refine Am (A75 (Ag hc hr2c)) (fun r6 hr6c=>?_)
    exact Ak ⟨⟨Nat.le_trans (Bcs r1.1 r6.1) zq0,I0⟩,(Ag hc hr6c)⟩
   ·refine As (fun hb15=>?_) (fun hb15=>?_)
    ·have hd15:=eq_of_beq hb15
     refine Am (Bj _ (Ag hc hr2c) zq7) (fun r7 ⟨⟨hr71,hr72⟩,hr7c⟩=>?_)
     exact Ak ⟨⟨Nat.le_trans (Bct r1.1 r7.1) zq0,I0⟩,(Ag hc hr7c)⟩
    ·refine As (fun hb19=>?_) (fun hb19=>?_)
     ·have hd19:=eq_of_beq hb19
      refine Am (A7 _ (0) (12) (Ag hc hr2c) zq4 zq4) (fun r8 ⟨⟨hr81,hr82⟩,hr8c⟩=>?_)
      refine Am (Ba _ (Ag hc hr8c) zq7) (fun r9 ⟨⟨hr91,hr92⟩,hr9c⟩=>?_)
      exact Ak ⟨⟨Nat.le_trans (Bcu r1.1 r9.1) zq0,I0⟩,(Ag hc hr9c)⟩
     ·refine As (fun hb24=>?_) (fun hb24=>?_)
      ·have hd24:=eq_of_beq hb24
       refine Am (A76 (Ag hc hr2c)) (fun r10 ⟨⟨hr101,hr102⟩,hr10c⟩=>?_)
       exact Ak ⟨⟨Nat.le_trans (Bcv r1.1 r10.1) zq0,I0⟩,(Ag hc hr10c)⟩
      ·refine As (fun hb28=>?_) (fun hb28=>?_)
       ·have hd28:=eq_of_beq hb28
        refine Am (A5l (Ag hc hr2c)) (fun r11 ⟨⟨hr111,hr112⟩,hr11c⟩=>?_)
        exact Ak ⟨⟨Nat.le_trans (Bcw r1.1 r11.1) zq0,I0⟩,(Ag hc hr11c)⟩
       ·refine As (fun hb32=>?_) (fun hb32=>?_)
        ·have hd32:=eq_of_beq hb32
         refine Am (Ast (Ag hc hr2c)) (fun r12 hr12c=>?_)
         exact Ak ⟨⟨Nat.le_trans (Az1 r1.1 r12.1) zq0,I0⟩,(Ag hc hr12c)⟩
        ·refine As (fun hb36=>?_) (fun hb36=>?_)
         ·have hd36:=eq_of_beq hb36
          refine Am (Ast (Ag hc hr2c)) (fun r13 hr13c=>?_)
          exact Ak ⟨⟨Nat.le_trans (Bcx r1.1 r13.1) zq0,I0⟩,(Ag hc hr13c)⟩
         ·refine As (fun hb40=>?_) (fun hb40=>?_)
          ·have hd40:=eq_of_beq hb40
           refine Am (A7 _ (-1) (1000001) (Ag hc hr2c) zq4 zq4) (fun r14 ⟨⟨hr141,hr142⟩,hr14c⟩=>?_)
           exact Ak ⟨⟨Nat.le_trans (Bbi r1.1 r14.1) zq0,I0⟩,(Ag hc hr14c)⟩
          ·refine As (fun hb44=>?_) (fun hb44=>?_)
           ·have hd44:=eq_of_beq hb44
            exact Ak ⟨⟨Nat.le_trans (Bbj r1.1) zq0,I0⟩,(Ag hc hr2c)⟩
           ·exact Ak ⟨⟨by(first|omega|(dsimp only;omega)),I0⟩,(Ag hc hr2c)⟩

end
end Go.Proofs.YtjlblagmjlmglaaGreat

/-
  That the program and the reference answer alike, in plain terms, and that the laws answer true.
-/
import Derived.Test.YtmhhajdeafijmaaGreatL47
namespace Go.Proofs.YtmhhajdeafijmaaGreat
open Go.RowKit
set_option linter.unusedVariables false
set_option linter.unusedSimpArgs false
set_option maxRecDepth 100000
set_option maxHeartbeats 16000000
noncomputable section
theorem Aml (a0:YBs) (hl:a0.1.length≤1048576):Tot (fun r=>Ao r.1≤30000∧wfB (C0 r.1).2.1∧Ar r.2.2≤100000∧wfB r.2.2.2.2.2.1) (Ks a0):=by
 unfold Ks Kr
 simp only[Aj,Al,Af,Aq,List.length_nil,List.nil_append,Nat.zero_add]
 refine Ae (A8a _ hl) (fun r1 hr1c=>?_)
 refine Ae (A5w hr1c) (fun r2 ⟨⟨hr21,hr22⟩,hr2c⟩=>?_)
 have hcc:A0 (C0 r2.1)≤Ao r2.1:=Abh r2.1
 dsimp only[C0]at hcc
 have hcn:=Ang r2.1
 refine Ae (A5v _ (Aa hr1c hr2c)) (fun r3 hr3c=>?_)
 refine Ae (Ajw (Aa hr1c hr3c)) (fun r4 ⟨⟨hr41,hr42⟩,hr4c⟩=>?_)
 have hsc:=W0 r4.1 r2.1.2.2.2.2.2.1
 refine Am (fun hb4=>?_) (fun hb4=>?_)
 ·have hd4:=of_decide_eq_true hb4
  refine Ae (Az9 _ (Aa hr1c hr4c) (by have:=Abh r2.1;exact Nat.le_trans this zq0) Cy) (fun r5 ⟨⟨hr51,hr52⟩,hr5c⟩=>?_)
  refine Ae (Ba _ (Aa hr1c hr5c) zq7) (fun r6 ⟨⟨hr61,hr62⟩,hr6c⟩=>?_)
  refine Am (fun hb8=>?_) (fun hb8=>?_)
  ·have hd8:=eq_of_beq hb8
   refine Ae (Amk (Aa hr1c hr6c)) (fun r7 ⟨⟨hr71,hr72⟩,hr7c⟩=>?_)
   exact Ag ⟨Pb,Eg,Pb,Eg⟩
  ·refine Am (fun hb12=>?_) (fun hb12=>?_)
   ·have hd12:=eq_of_beq hb12
    refine Ae (Bj _ (Aa hr1c hr6c) zq7 Cy) (fun r8 ⟨⟨hr81,hr82⟩,hr8c⟩=>?_)
    exact Ag ⟨Pb,Eg,Pb,Eg⟩
   ·exact Ag ⟨Pb,Eg,Pb,Eg⟩
 ·have hd4:=of_decide_eq_false hb4
  refine Ae (Ba _ (Aa hr1c hr4c) zq7) (fun r9 ⟨⟨hr91,hr92⟩,hr9c⟩=>?_)
  refine Am (fun hb19=>?_) (fun hb19=>?_)
  ·have hd19:=eq_of_beq hb19
   refine Ae (Amk (Aa hr1c hr9c)) (fun r10 ⟨⟨hr101,hr102⟩,hr10c⟩=>?_)
   exact Ag ⟨Pb,Eg,Pb,Eg⟩
  ·refine Am (fun hb23=>?_) (fun hb23=>?_)
   ·have hd23:=eq_of_beq hb23
    refine Ae (Bj _ (Aa hr1c hr9c) (Nat.le_trans (W0 r4.1 _) (by have:=Ang r2.1;omega)) Cy) (fun r11 ⟨⟨hr111,hr112⟩,hr11c⟩=>?_)
    exact Ag ⟨Pb,Eg,Pb,Eg⟩
   ·exact Ag ⟨Pb,Eg,Nat.le_trans (W0 r4.1 _) (by have:=Ang r2.1;omega),Eg⟩
end
end Go.Proofs.YtmhhajdeafijmaaGreat

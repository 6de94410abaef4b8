/-
  That the program and the reference answer alike, in plain terms, and that the laws answer true.
-/
import Derived.Test.YtmhhajdeafijmaaGreatL5
namespace Go.Proofs.YtmhhajdeafijmaaGreat
open Go.RowKit
set_option linter.unusedVariables false
set_option linter.unusedSimpArgs false
set_option maxHeartbeats 4000000
noncomputable section
theorem Z6 (n:YI):Gd n=some (inR n.1 4 8,()):=by
 unfold Gd Agt
 simp only[Al,Af,Ch,An]
theorem Na (n:YI):Hq n=some (inR n.1 4 8,()):=by
 unfold Hq Afn
 simp only[Al,Af,Cz,An]
def G8 (k n:Int):Bool:=bif k==4 then decide (n≤40)else bif k==5 then n==12 else bif k==6 then n==12 else n==4
theorem A9i (k n:YI):Agv k n=some (G8 k.1 n.1,()):=by
 unfold Agv Agu G8
 simp only[Aj,Af,Mz]
theorem Aqh (k n:YI):N3 k n=some (G8 k.1 n.1,()):=by
 unfold N3 Afo G8
 simp only[Aj,Af,Mz]
theorem Aow (f g:Ab):E9 f g=some ((f.1==g.1) && ((f.2.1==g.2.1) && ((f.2.2.2.2.1==g.2.2.2.2.1) && ((f.2.2.2.2.2.2.2.1==g.2.2.2.2.2.2.2.1) && ((f.2.2.2.2.2.2.2.2.1==g.2.2.2.2.2.2.2.2.1) && (Dq f.2.2.1 g.2.2.1 && (Dq f.2.2.2.1 g.2.2.2.1 &&
  (Dq f.2.2.2.2.2.1 g.2.2.2.2.2.1 && (Dq f.2.2.2.2.2.2.1 g.2.2.2.2.2.2.1 && (Dq f.2.2.2.2.2.2.2.2.2.1 g.2.2.2.2.2.2.2.2.2.1 && Dq f.2.2.2.2.2.2.2.2.2.2.1 g.2.2.2.2.2.2.2.2.2.2.1))))))))),()):=by
 unfold E9 S5
 simp only[Aj,Al,Af,Rs,An,Mj]
def Cc (f:Ab):Bool:=
 bif inR f.1 4 8 then(f.2.1==0) && (((f.2.2.1.length:Int)==0) && (((f.2.2.2.1.length:Int)==12) && ((f.2.2.2.2.1==0) && (((f.2.2.2.2.2.1.length:Int)==0) && (((f.2.2.2.2.2.2.1.length:Int)==0) && (inR f.2.2.2.2.2.2.2.1 0 4294967295 && (inR f.2.2.2.2.2.2.2.2.1 0 281474976710655 &&
  (G8 f.1 (f.2.2.2.2.2.2.2.2.2.1.length:Int) && ((f.2.2.2.2.2.2.2.2.2.2.1.length:Int)==16)))))))))
 else(f.2.2.2.2.2.2.2.1==0) && ((f.2.2.2.2.2.2.2.2.1==0) && (((f.2.2.2.2.2.2.2.2.2.1.length:Int)==0) && (((f.2.2.2.2.2.2.2.2.2.2.1.length:Int)==0) && (((f.2.2.1.length:Int)==12) &&
  (bif f.1==1 then inR f.2.1 1 9 && (((f.2.2.2.1.length:Int)==0) && ((f.2.2.2.2.1==0) && (((f.2.2.2.2.2.1.length:Int)==0) && ((f.2.2.2.2.2.2.1.length:Int)==0))))
   else bif f.1==2 then(f.2.1==0) && (((f.2.2.2.1.length:Int)==12) && (inR f.2.2.2.2.1 0 1000000 && (((f.2.2.2.2.2.1.length:Int)==16) && ((f.2.2.2.2.2.2.1.length:Int)==0))))
   else(f.1==3) && (inR f.2.1 1 9 && (((f.2.2.2.1.length:Int)==12) && (inR f.2.2.2.2.1 0 1000000 && (((f.2.2.2.2.2.1.length:Int)==16) && ((f.2.2.2.2.2.2.1.length:Int)==16))))))))))
theorem No (f:Ab):H5 f=some (Cc f,()):=by
 unfold H5 Ab2 Cc
 simp only[Aj,Al,Af,Na,Cz,Aqh,An,Mz,bne,Bool.cond_false_right,Bool.cond_true_left,Bool.cond_false_left,Bool.not_not]
theorem La (f:Ab):Fq f=some (Cc f,()):=by
 obtain⟨kind,id,cn,sn,tick,cookie,proof,epoch,seq,body,tag,_⟩:=f
 unfold Fq Acj Cc
 simp only[Aj,Al,Af,Z6,Ch,I4,A9i,Aow,Al5,Ah8,beq_self_eq_true,Bool.true_and,Bool.and_true,An,Mz,Bool.cond_false_right,Bool.cond_true_left,Bool.cond_false_left,Bool.not_not]
 refine congrArg (fun b=>some (b,())) ?_
 by_cases h1:kind=1
 ·subst h1
  apply Hw
  simp[inR]
  grind
 ·by_cases h2:kind=2
  ·subst h2
   apply Hw
   simp[inR]
   grind
  ·by_cases h3:kind=3
   ·subst h3
    apply Hw
    simp[inR]
    grind
   ·have e1:(kind==1)=false:=by simpa using h1
    have e2:(kind==2)=false:=by simpa using h2
    have e3:(kind==3)=false:=by simpa using h3
    rw[e1,e2,e3]
    cases inR kind 4 8 with
    |false=>simp
    |true=>
     cases hb:G8 kind (body.length:Int)with
     |false=>simp
     |true=>
      apply Hw
      simp[inR]
      grind
end
end Go.Proofs.YtmhhajdeafijmaaGreat

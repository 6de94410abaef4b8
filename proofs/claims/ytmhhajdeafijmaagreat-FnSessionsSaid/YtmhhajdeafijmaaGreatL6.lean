/-
  That the program and the reference answer alike, in plain terms, and that the laws answer true.
-/
import Derived.Test.YtmhhajdeafijmaaGreatL5
namespace Go.Proofs.YtmhhajdeafijmaaGreat
open Go.RowKit
set_option linter.unusedVariables false
set_option linter.unusedSimpArgs false
set_option maxHeartbeats 4000000
noncomputable section
theorem Aev (n:YI):Ms n=some (inR n.1 4 8,()):=by
 unfold Ms Adm
 simp only[Ai,Ac,Ch,Ag]
theorem Rw (n:YI):Pi n=some (inR n.1 4 8,()):=by
 unfold Pi Aco
 simp only[Ai,Ac,Cw,Ag]
def G7 (k n:Int):Bool:=bif k==4 then decide (n≤40)else bif k==5 then n==12 else bif k==6 then n==12 else n==4
theorem A4z (k n:YI):Ado k n=some (G7 k.1 n.1,()):=by
 unfold Ado Adn G7
 simp only[Ae,Ac,U4]
theorem Al1 (k n:YI):Uk k n=some (G7 k.1 n.1,()):=by
 unfold Uk Acp G7
 simp only[Ae,Ac,U4]
theorem Ax1 (f g:Au):Ic f g=some ((f.1==g.1) && ((f.2.1==g.2.1) && ((f.2.2.2.2.1==g.2.2.2.2.1) && ((f.2.2.2.2.2.2.2.1==g.2.2.2.2.2.2.2.1) && ((f.2.2.2.2.2.2.2.2.1==g.2.2.2.2.2.2.2.2.1) && (Ew f.2.2.1 g.2.2.1 && (Ew f.2.2.2.1 g.2.2.2.1 &&
  (Ew f.2.2.2.2.2.1 g.2.2.2.2.2.1 && (Ew f.2.2.2.2.2.2.1 g.2.2.2.2.2.2.1 && (Ew f.2.2.2.2.2.2.2.2.2.1 g.2.2.2.2.2.2.2.2.2.1 && Ew f.2.2.2.2.2.2.2.2.2.2.1 g.2.2.2.2.2.2.2.2.2.2.1))))))))),()):=by
 unfold Ic T7
 simp only[Ae,Ai,Ac,Ns,Ag,Qs]
def Co (f:Au):Bool:=
 bif inR f.1 4 8 then(f.2.1==0) && (((f.2.2.1.length:Int)==0) && (((f.2.2.2.1.length:Int)==12) && ((f.2.2.2.2.1==0) && (((f.2.2.2.2.2.1.length:Int)==0) && (((f.2.2.2.2.2.2.1.length:Int)==0) && (inR f.2.2.2.2.2.2.2.1 0 4294967295 && (inR f.2.2.2.2.2.2.2.2.1 0 281474976710655 &&
  (G7 f.1 (f.2.2.2.2.2.2.2.2.2.1.length:Int) && ((f.2.2.2.2.2.2.2.2.2.2.1.length:Int)==16)))))))))
 else(f.2.2.2.2.2.2.2.1==0) && ((f.2.2.2.2.2.2.2.2.1==0) && (((f.2.2.2.2.2.2.2.2.2.1.length:Int)==0) && (((f.2.2.2.2.2.2.2.2.2.2.1.length:Int)==0) && (((f.2.2.1.length:Int)==12) &&
  (bif f.1==1 then inR f.2.1 1 9 && (((f.2.2.2.1.length:Int)==0) && ((f.2.2.2.2.1==0) && (((f.2.2.2.2.2.1.length:Int)==0) && ((f.2.2.2.2.2.2.1.length:Int)==0))))
   else bif f.1==2 then(f.2.1==0) && (((f.2.2.2.1.length:Int)==12) && (inR f.2.2.2.2.1 0 1000000 && (((f.2.2.2.2.2.1.length:Int)==16) && ((f.2.2.2.2.2.2.1.length:Int)==0))))
   else(f.1==3) && (inR f.2.1 1 9 && (((f.2.2.2.1.length:Int)==12) && (inR f.2.2.2.2.1 0 1000000 && (((f.2.2.2.2.2.1.length:Int)==16) && ((f.2.2.2.2.2.2.1.length:Int)==16))))))))))
theorem Mc (f:Au):Nd f=some (Co f,()):=by
 unfold Nd Zv Co
 simp only[Ae,Ai,Ac,Rw,Cw,Al1,Ag,U4,bne,Bool.cond_false_right,Bool.cond_true_left,Bool.cond_false_left,Bool.not_not]
theorem Ti (f:Au):Lb f=some (Co f,()):=by
 obtain⟨kind,id,cn,sn,tick,cookie,proof,epoch,seq,body,tag,_⟩:=f
 unfold Lb Z6 Co
 simp only[Ae,Ai,Ac,Aev,Ch,Hk,A4z,Ax1,Arz,Qw,beq_self_eq_true,Bool.true_and,Bool.and_true,Ag,U4,Bool.cond_false_right,Bool.cond_true_left,Bool.cond_false_left,Bool.not_not]
 refine congrArg (fun b=>some (b,())) ?_
 by_cases h1:kind=1
 ·subst h1
  apply Kg
  simp[inR]
  grind
 ·by_cases h2:kind=2
  ·subst h2
   apply Kg
   simp[inR]
   grind
  ·by_cases h3:kind=3
   ·subst h3
    apply Kg
    simp[inR]
    grind
   ·have e1:(kind==1)=false:=by simpa using h1
    have e2:(kind==2)=false:=by simpa using h2
    have e3:(kind==3)=false:=by simpa using h3
    rw[e1,e2,e3]
    cases inR kind 4 8 with
    |false=>simp
    |true=>
     cases hb:G7 kind (body.length:Int)with
     |false=>simp
     |true=>
      apply Kg
      simp[inR]
      grind
end
end Go.Proofs.YtmhhajdeafijmaaGreat

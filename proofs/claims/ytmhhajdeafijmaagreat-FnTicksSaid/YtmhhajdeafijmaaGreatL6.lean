/-
  That the program and the reference answer alike, in plain terms, and that the laws answer true.
-/
import Derived.Test.YtmhhajdeafijmaaGreatL5
namespace Go.Proofs.YtmhhajdeafijmaaGreat
open Go.RowKit
set_option linter.unusedVariables false
set_option linter.unusedSimpArgs false
set_option maxHeartbeats 4000000
noncomputable section
theorem Rd (n:YI):Gw n=some (inR n.1 4 8,()):=by
 unfold Gw Ag0
 simp only[Ai,Ad,Br,Aj]
theorem Ln (n:YI):H5 n=some (inR n.1 4 8,()):=by
 unfold H5 Af7
 simp only[Ai,Ad,Cb,Aj]
def Ft (k n:Int):Bool:=bif k==4 then decide (n≤40)else bif k==5 then n==12 else bif k==6 then n==12 else n==4
theorem A8l (k n:YI):Ahu k n=some (Ft k.1 n.1,()):=by
 unfold Ahu Ag1 Ft
 simp only[Ag,Ad,Nt]
theorem Aqc (k n:YI):Pg k n=some (Ft k.1 n.1,()):=by
 unfold Pg Af8 Ft
 simp only[Ag,Ad,Nt]
theorem Aos (f g:Aa):Fm f g=some ((f.1==g.1) && ((f.2.1==g.2.1) && ((f.2.2.2.2.1==g.2.2.2.2.1) && ((f.2.2.2.2.2.2.2.1==g.2.2.2.2.2.2.2.1) && ((f.2.2.2.2.2.2.2.2.1==g.2.2.2.2.2.2.2.2.1) && (Dt f.2.2.1 g.2.2.1 && (Dt f.2.2.2.1 g.2.2.2.1 &&
  (Dt f.2.2.2.2.2.1 g.2.2.2.2.2.1 && (Dt f.2.2.2.2.2.2.1 g.2.2.2.2.2.2.1 && (Dt f.2.2.2.2.2.2.2.2.2.1 g.2.2.2.2.2.2.2.2.2.1 && Dt f.2.2.2.2.2.2.2.2.2.2.1 g.2.2.2.2.2.2.2.2.2.2.1))))))))),()):=by
 unfold Fm Tx
 simp only[Ag,Ai,Ad,M8,Aj,M9]
def Bg (f:Aa):Bool:=
 bif inR f.1 4 8 then(f.2.1==0) && (((f.2.2.1.length:Int)==0) && (((f.2.2.2.1.length:Int)==12) && ((f.2.2.2.2.1==0) && (((f.2.2.2.2.2.1.length:Int)==0) && (((f.2.2.2.2.2.2.1.length:Int)==0) && (inR f.2.2.2.2.2.2.2.1 0 4294967295 && (inR f.2.2.2.2.2.2.2.2.1 0 281474976710655 &&
  (Ft f.1 (f.2.2.2.2.2.2.2.2.2.1.length:Int) && ((f.2.2.2.2.2.2.2.2.2.2.1.length:Int)==16)))))))))
 else(f.2.2.2.2.2.2.2.1==0) && ((f.2.2.2.2.2.2.2.2.1==0) && (((f.2.2.2.2.2.2.2.2.2.1.length:Int)==0) && (((f.2.2.2.2.2.2.2.2.2.2.1.length:Int)==0) && (((f.2.2.1.length:Int)==12) &&
  (bif f.1==1 then inR f.2.1 1 9 && (((f.2.2.2.1.length:Int)==0) && ((f.2.2.2.2.1==0) && (((f.2.2.2.2.2.1.length:Int)==0) && ((f.2.2.2.2.2.2.1.length:Int)==0))))
   else bif f.1==2 then(f.2.1==0) && (((f.2.2.2.1.length:Int)==12) && (inR f.2.2.2.2.1 0 1000000 && (((f.2.2.2.2.2.1.length:Int)==16) && ((f.2.2.2.2.2.2.1.length:Int)==0))))
   else(f.1==3) && (inR f.2.1 1 9 && (((f.2.2.2.1.length:Int)==12) && (inR f.2.2.2.2.1 0 1000000 && (((f.2.2.2.2.2.1.length:Int)==16) && ((f.2.2.2.2.2.2.1.length:Int)==16))))))))))
theorem Lo (f:Aa):Iq f=some (Bg f,()):=by
 unfold Iq Acr Bg
 simp only[Ag,Ai,Ad,Ln,Cb,Aqc,Aj,Nt,bne,Bool.cond_false_right,Bool.cond_true_left,Bool.cond_false_left,Bool.not_not]
theorem Ic (f:Aa):F8 f=some (Bg f,()):=by
 obtain⟨kind,id,cn,sn,tick,cookie,proof,epoch,seq,body,tag,_⟩:=f
 unfold F8 Ac8 Bg
 simp only[Ag,Ai,Ad,Rd,Br,Jj,A8l,Aos,Alv,Pu,beq_self_eq_true,Bool.true_and,Bool.and_true,Aj,Nt,Bool.cond_false_right,Bool.cond_true_left,Bool.cond_false_left,Bool.not_not]
 refine congrArg (fun b=>some (b,())) ?_
 by_cases h1:kind=1
 ·subst h1
  apply Ib
  simp[inR]
  grind
 ·by_cases h2:kind=2
  ·subst h2
   apply Ib
   simp[inR]
   grind
  ·by_cases h3:kind=3
   ·subst h3
    apply Ib
    simp[inR]
    grind
   ·have e1:(kind==1)=false:=by simpa using h1
    have e2:(kind==2)=false:=by simpa using h2
    have e3:(kind==3)=false:=by simpa using h3
    rw[e1,e2,e3]
    cases inR kind 4 8 with
    |false=>simp
    |true=>
     cases hb:Ft kind (body.length:Int)with
     |false=>simp
     |true=>
      apply Ib
      simp[inR]
      grind
end
end Go.Proofs.YtmhhajdeafijmaaGreat

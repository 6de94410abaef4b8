/-
  That the program and the reference answer alike, in plain terms, and that the laws answer true.
-/
import Derived.Test.YtmhhajdeafijmaaGreatL5
namespace Go.Proofs.YtmhhajdeafijmaaGreat
open Go.RowKit
set_option linter.unusedVariables false
set_option linter.unusedSimpArgs false
set_option maxHeartbeats 4000000
noncomputable section
theorem Afv (n:YI):Nd n=some (inR n.1 4 8,()):=by
 unfold Nd Aen
 simp only[Ai,Ac,Cj,Ag]
theorem Su (n:YI):Kl n=some (inR n.1 4 8,()):=by
 unfold Kl Adn
 simp only[Ai,Ac,Cz,Ag]
def Hc (k n:Int):Bool:=bif k==4 then decide (n≤40)else bif k==5 then n==12 else bif k==6 then n==12 else n==4
theorem A65 (k n:YI):Afg k n=some (Hc k.1 n.1,()):=by
 unfold Afg Aeo Hc
 simp only[Ae,Ac,Vs]
theorem Anq (k n:YI):Qw k n=some (Hc k.1 n.1,()):=by
 unfold Qw Adp Hc
 simp only[Ae,Ac,Vs]
theorem Az5 (f g:Aq):Iq f g=some ((f.1==g.1) && ((f.2.1==g.2.1) && ((f.2.2.2.2.1==g.2.2.2.2.1) && ((f.2.2.2.2.2.2.2.1==g.2.2.2.2.2.2.2.1) && ((f.2.2.2.2.2.2.2.2.1==g.2.2.2.2.2.2.2.2.1) && (Ez f.2.2.1 g.2.2.1 && (Ez f.2.2.2.1 g.2.2.2.1 &&
  (Ez f.2.2.2.2.2.1 g.2.2.2.2.2.1 && (Ez f.2.2.2.2.2.2.1 g.2.2.2.2.2.2.1 && (Ez f.2.2.2.2.2.2.2.2.2.1 g.2.2.2.2.2.2.2.2.2.1 && Ez f.2.2.2.2.2.2.2.2.2.2.1 g.2.2.2.2.2.2.2.2.2.2.1))))))))),()):=by
 unfold Iq Ur
 simp only[Ae,Ai,Ac,Oa,Ag,Rd]
def Cq (f:Aq):Bool:=
 bif inR f.1 4 8 then(f.2.1==0) && (((f.2.2.1.length:Int)==0) && (((f.2.2.2.1.length:Int)==12) && ((f.2.2.2.2.1==0) && (((f.2.2.2.2.2.1.length:Int)==0) && (((f.2.2.2.2.2.2.1.length:Int)==0) && (inR f.2.2.2.2.2.2.2.1 0 4294967295 && (inR f.2.2.2.2.2.2.2.2.1 0 281474976710655 &&
  (Hc f.1 (f.2.2.2.2.2.2.2.2.2.1.length:Int) && ((f.2.2.2.2.2.2.2.2.2.2.1.length:Int)==16)))))))))
 else(f.2.2.2.2.2.2.2.1==0) && ((f.2.2.2.2.2.2.2.2.1==0) && (((f.2.2.2.2.2.2.2.2.2.1.length:Int)==0) && (((f.2.2.2.2.2.2.2.2.2.2.1.length:Int)==0) && (((f.2.2.1.length:Int)==12) &&
  (bif f.1==1 then inR f.2.1 1 9 && (((f.2.2.2.1.length:Int)==0) && ((f.2.2.2.2.1==0) && (((f.2.2.2.2.2.1.length:Int)==0) && ((f.2.2.2.2.2.2.1.length:Int)==0))))
   else bif f.1==2 then(f.2.1==0) && (((f.2.2.2.1.length:Int)==12) && (inR f.2.2.2.2.1 0 1000000 && (((f.2.2.2.2.2.1.length:Int)==16) && ((f.2.2.2.2.2.2.1.length:Int)==0))))
   else(f.1==3) && (inR f.2.1 1 9 && (((f.2.2.2.1.length:Int)==12) && (inR f.2.2.2.2.1 0 1000000 && (((f.2.2.2.2.2.1.length:Int)==16) && ((f.2.2.2.2.2.2.1.length:Int)==16))))))))))
theorem Mr (f:Aq):Ll f=some (Cq f,()):=by
 unfold Ll Aak Cq
 simp only[Ae,Ai,Ac,Su,Cz,Anq,Ag,Vs,bne,Bool.cond_false_right,Bool.cond_true_left,Bool.cond_false_left,Bool.not_not]
theorem T7 (f:Aq):Jf f=some (Cq f,()):=by
 obtain⟨kind,id,cn,sn,tick,cookie,proof,epoch,seq,body,tag,_⟩:=f
 unfold Jf Aa2 Cq
 simp only[Ae,Ai,Ac,Afv,Cj,Hp,A65,Az5,Aty,Rh,beq_self_eq_true,Bool.true_and,Bool.and_true,Ag,Vs,Bool.cond_false_right,Bool.cond_true_left,Bool.cond_false_left,Bool.not_not]
 refine congrArg (fun b=>some (b,())) ?_
 by_cases h1:kind=1
 ·subst h1
  apply Kr
  simp[inR]
  grind
 ·by_cases h2:kind=2
  ·subst h2
   apply Kr
   simp[inR]
   grind
  ·by_cases h3:kind=3
   ·subst h3
    apply Kr
    simp[inR]
    grind
   ·have e1:(kind==1)=false:=by simpa using h1
    have e2:(kind==2)=false:=by simpa using h2
    have e3:(kind==3)=false:=by simpa using h3
    rw[e1,e2,e3]
    cases inR kind 4 8 with
    |false=>simp
    |true=>
     cases hb:Hc kind (body.length:Int)with
     |false=>simp
     |true=>
      apply Kr
      simp[inR]
      grind
end
end Go.Proofs.YtmhhajdeafijmaaGreat

/-
  That the program and the reference answer alike, in plain terms, and that the laws answer true.
-/
import Derived.Test.YtmhhajdeafijmaaGreatL5
namespace Go.Proofs.YtmhhajdeafijmaaGreat
open Go.RowKit
set_option linter.unusedVariables false
set_option linter.unusedSimpArgs false
set_option maxHeartbeats 4000000
noncomputable section
theorem Afr (n:YI):Mj n=some (inR n.1 4 8,()):=by
 unfold Mj Ad7
 simp only[Ah,Ac,C9,Ai]
theorem Ro (n:YI):Jz n=some (inR n.1 4 8,()):=by
 unfold Jz Acy
 simp only[Ah,Ac,C4,Ai]
def Ie (k n:Int):Bool:=bif k==4 then decide (n≤40)else bif k==5 then n==12 else bif k==6 then n==12 else n==4
theorem A65 (k n:YI):Ad9 k n=some (Ie k.1 n.1,()):=by
 unfold Ad9 Ad8 Ie
 simp only[Af,Ac,U2]
theorem An0 (k n:YI):Pa k n=some (Ie k.1 n.1,()):=by
 unfold Pa Acz Ie
 simp only[Af,Ac,U2]
theorem A0c (f g:Au):H2 f g=some ((f.1==g.1) && ((f.2.1==g.2.1) && ((f.2.2.2.2.1==g.2.2.2.2.1) && ((f.2.2.2.2.2.2.2.1==g.2.2.2.2.2.2.2.1) && ((f.2.2.2.2.2.2.2.2.1==g.2.2.2.2.2.2.2.2.1) && (E4 f.2.2.1 g.2.2.1 && (E4 f.2.2.2.1 g.2.2.2.1 &&
  (E4 f.2.2.2.2.2.1 g.2.2.2.2.2.1 && (E4 f.2.2.2.2.2.2.1 g.2.2.2.2.2.2.1 && (E4 f.2.2.2.2.2.2.2.2.2.1 g.2.2.2.2.2.2.2.2.2.1 && E4 f.2.2.2.2.2.2.2.2.2.2.1 g.2.2.2.2.2.2.2.2.2.2.1))))))))),()):=by
 unfold H2 T0
 simp only[Af,Ah,Ac,Kr,Ai,Ql]
def El (f:Au):Bool:=
 bif inR f.1 4 8 then(f.2.1==0) && (((f.2.2.1.length:Int)==0) && (((f.2.2.2.1.length:Int)==12) && ((f.2.2.2.2.1==0) && (((f.2.2.2.2.2.1.length:Int)==0) && (((f.2.2.2.2.2.2.1.length:Int)==0) && (inR f.2.2.2.2.2.2.2.1 0 4294967295 && (inR f.2.2.2.2.2.2.2.2.1 0 281474976710655 &&
  (Ie f.1 (f.2.2.2.2.2.2.2.2.2.1.length:Int) && ((f.2.2.2.2.2.2.2.2.2.2.1.length:Int)==16)))))))))
 else(f.2.2.2.2.2.2.2.1==0) && ((f.2.2.2.2.2.2.2.2.1==0) && (((f.2.2.2.2.2.2.2.2.2.1.length:Int)==0) && (((f.2.2.2.2.2.2.2.2.2.2.1.length:Int)==0) && (((f.2.2.1.length:Int)==12) &&
  (bif f.1==1 then inR f.2.1 1 9 && (((f.2.2.2.1.length:Int)==0) && ((f.2.2.2.2.1==0) && (((f.2.2.2.2.2.1.length:Int)==0) && ((f.2.2.2.2.2.2.1.length:Int)==0))))
   else bif f.1==2 then(f.2.1==0) && (((f.2.2.2.1.length:Int)==12) && (inR f.2.2.2.2.1 0 1000000 && (((f.2.2.2.2.2.1.length:Int)==16) && ((f.2.2.2.2.2.2.1.length:Int)==0))))
   else(f.1==3) && (inR f.2.1 1 9 && (((f.2.2.2.1.length:Int)==12) && (inR f.2.2.2.2.1 0 1000000 && (((f.2.2.2.2.2.1.length:Int)==16) && ((f.2.2.2.2.2.2.1.length:Int)==16))))))))))
theorem Ta (f:Au):Kk f=some (El f,()):=by
 unfold Kk Zo El
 simp only[Af,Ah,Ac,Ro,C4,An0,Ai,U2,bne,Bool.cond_false_right,Bool.cond_true_left,Bool.cond_false_left,Bool.not_not]
theorem Ajr (f:Au):M9 f=some (El f,()):=by
 obtain⟨kind,id,cn,sn,tick,cookie,proof,epoch,seq,body,tag,_⟩:=f
 unfold M9 Z9 El
 simp only[Af,Ah,Ac,Afr,C9,Ot,A65,A0c,Atz,Afq,beq_self_eq_true,Bool.true_and,Bool.and_true,Ai,U2,Bool.cond_false_right,Bool.cond_true_left,Bool.cond_false_left,Bool.not_not]
 refine congrArg (fun b=>some (b,())) ?_
 by_cases h1:kind=1
 ·subst h1
  apply J2
  simp[inR]
  grind
 ·by_cases h2:kind=2
  ·subst h2
   apply J2
   simp[inR]
   grind
  ·by_cases h3:kind=3
   ·subst h3
    apply J2
    simp[inR]
    grind
   ·have e1:(kind==1)=false:=by simpa using h1
    have e2:(kind==2)=false:=by simpa using h2
    have e3:(kind==3)=false:=by simpa using h3
    rw[e1,e2,e3]
    cases inR kind 4 8 with
    |false=>simp
    |true=>
     cases hb:Ie kind (body.length:Int)with
     |false=>simp
     |true=>
      apply J2
      simp[inR]
      grind
end
end Go.Proofs.YtmhhajdeafijmaaGreat

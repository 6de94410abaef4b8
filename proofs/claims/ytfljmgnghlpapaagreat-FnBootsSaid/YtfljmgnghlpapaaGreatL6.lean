/-
  That the program and the reference answer alike, in plain terms, and that the laws answer true.
-/
import Derived.Test.YtfljmgnghlpapaaGreatL5
namespace Go.Proofs.YtfljmgnghlpapaaGreat
open Go.RowKit
set_option linter.unusedVariables false
set_option linter.unusedSimpArgs false
set_option maxHeartbeats 4000000
noncomputable section
theorem Bc7 (n:YI):Qn n=some (inR n.1 4 8,()):=by
 unfold Qn Agx
 simp only[Ae,Ab,Bw,Ai]
theorem Bc8 (n:YI):Ag9 n=some (inR n.1 4 8,()):=by
 unfold Ag9 Afg
 simp only[Ae,Ab,Df,Ai]
def Aeg (k n:Int):Bool:=bif k==4 then decide (n≤40)else bif k==5 then n==12 else bif k==6 then n==12 else n==4
theorem Bc9 (k n:YI):Ahs k n=some (Aeg k.1 n.1,()):=by
 unfold Ahs Agy Aeg
 simp only[Ac,Ab,Vt]
theorem Bda (k n:YI):Aha k n=some (Aeg k.1 n.1,()):=by
 unfold Aha Afh Aeg
 simp only[Ac,Ab,Vt]
theorem A5j (f g:Ch):Ij f g=some ((f.1==g.1) && ((f.2.1==g.2.1) && ((f.2.2.2.2.1==g.2.2.2.2.1) && ((f.2.2.2.2.2.2.2.1==g.2.2.2.2.2.2.2.1) && ((f.2.2.2.2.2.2.2.2.1==g.2.2.2.2.2.2.2.2.1) && (Ds f.2.2.1 g.2.2.1 && (Ds f.2.2.2.1 g.2.2.2.1 &&
  (Ds f.2.2.2.2.2.1 g.2.2.2.2.2.1 && (Ds f.2.2.2.2.2.2.1 g.2.2.2.2.2.2.1 && (Ds f.2.2.2.2.2.2.2.2.2.1 g.2.2.2.2.2.2.2.2.2.1 && Ds f.2.2.2.2.2.2.2.2.2.2.1 g.2.2.2.2.2.2.2.2.2.2.1))))))))),()):=by
 unfold Ij Ur
 simp only[Ac,Ae,Ab,N4,Ai,L7]
def V0 (f:Ch):Bool:=
 bif inR f.1 4 8 then(f.2.1==0) && (((f.2.2.1.length:Int)==0) && (((f.2.2.2.1.length:Int)==12) && ((f.2.2.2.2.1==0) && (((f.2.2.2.2.2.1.length:Int)==0) && (((f.2.2.2.2.2.2.1.length:Int)==0) && (inR f.2.2.2.2.2.2.2.1 0 4294967295 && (inR f.2.2.2.2.2.2.2.2.1 0 281474976710655 &&
  (Aeg f.1 (f.2.2.2.2.2.2.2.2.2.1.length:Int) && ((f.2.2.2.2.2.2.2.2.2.2.1.length:Int)==16)))))))))
 else(f.2.2.2.2.2.2.2.1==0) && ((f.2.2.2.2.2.2.2.2.1==0) && (((f.2.2.2.2.2.2.2.2.2.1.length:Int)==0) && (((f.2.2.2.2.2.2.2.2.2.2.1.length:Int)==0) && (((f.2.2.1.length:Int)==12) &&
  (bif f.1==1 then inR f.2.1 1 9 && (((f.2.2.2.1.length:Int)==0) && ((f.2.2.2.2.1==0) && (((f.2.2.2.2.2.1.length:Int)==0) && ((f.2.2.2.2.2.2.1.length:Int)==0))))
   else bif f.1==2 then(f.2.1==0) && (((f.2.2.2.1.length:Int)==12) && (inR f.2.2.2.2.1 0 1000000 && (((f.2.2.2.2.2.1.length:Int)==16) && ((f.2.2.2.2.2.2.1.length:Int)==0))))
   else(f.1==3) && (inR f.2.1 1 9 && (((f.2.2.2.1.length:Int)==12) && (inR f.2.2.2.2.1 0 1000000 && (((f.2.2.2.2.2.1.length:Int)==16) && ((f.2.2.2.2.2.2.1.length:Int)==16))))))))))
theorem Aya (f:Ch):Sv f=some (V0 f,()):=by
 unfold Sv Abg V0
 simp only[Ac,Ae,Ab,Bc8,Df,Bda,Ai,Vt,bne,Bool.cond_false_right,Bool.cond_true_left,Bool.cond_false_left,Bool.not_not]
theorem Baz (f:Ch):N0 f=some (V0 f,()):=by
 obtain⟨kind,id,cn,sn,tick,cookie,proof,epoch,seq,body,tag,_⟩:=f
 unfold N0 Acm V0
 simp only[Ac,Ae,Ab,Bc7,Bw,L8,Bc9,A5j,Ax8,Qs,beq_self_eq_true,Bool.true_and,Bool.and_true,Ai,Vt,Bool.cond_false_right,Bool.cond_true_left,Bool.cond_false_left,Bool.not_not]
 refine congrArg (fun b=>some (b,())) ?_
 by_cases h1:kind=1
 ·subst h1
  apply G5
  simp[inR]
  grind
 ·by_cases h2:kind=2
  ·subst h2
   apply G5
   simp[inR]
   grind
  ·by_cases h3:kind=3
   ·subst h3
    apply G5
    simp[inR]
    grind
   ·have e1:(kind==1)=false:=by simpa using h1
    have e2:(kind==2)=false:=by simpa using h2
    have e3:(kind==3)=false:=by simpa using h3
    rw[e1,e2,e3]
    cases inR kind 4 8 with
    |false=>simp
    |true=>
     cases hb:Aeg kind (body.length:Int)with
     |false=>simp
     |true=>
      apply G5
      simp[inR]
      grind
end
end Go.Proofs.YtfljmgnghlpapaaGreat

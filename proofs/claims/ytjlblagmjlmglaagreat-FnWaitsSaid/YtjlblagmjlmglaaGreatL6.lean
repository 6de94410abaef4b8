/-
  That the program and the reference answer alike, in plain terms, and that the laws answer true.
-/
import Derived.Test.YtjlblagmjlmglaaGreatL5
namespace Go.Proofs.YtjlblagmjlmglaaGreat
open Go.RowKit
set_option linter.unusedVariables false
set_option linter.unusedSimpArgs false
set_option maxHeartbeats 4000000
noncomputable section
theorem Z2 (n:YI):Gl n=some (inR n.1 4 8,()):=by
 unfold Gl Agi
 simp only[Aj,Ad,B6,Al]
theorem Nh (n:YI):Hx n=some (inR n.1 4 8,()):=by
 unfold Hx Afm
 simp only[Aj,Ad,Bv,Al]
def He (k n:Int):Bool:=bif k==4 then decide (n≤40)else bif k==5 then n==12 else bif k==6 then n==12 else n==4
theorem A9f (k n:YI):Ahd k n=some (He k.1 n.1,()):=by
 unfold Ahd Agj He
 simp only[Ai,Ad,M8]
theorem Ap1 (k n:YI):Ov k n=some (He k.1 n.1,()):=by
 unfold Ov Afn He
 simp only[Ai,Ad,M8]
theorem Aoe (f g:Aa):Ff f g=some ((f.1==g.1) && ((f.2.1==g.2.1) && ((f.2.2.2.2.1==g.2.2.2.2.1) && ((f.2.2.2.2.2.2.2.1==g.2.2.2.2.2.2.2.1) && ((f.2.2.2.2.2.2.2.2.1==g.2.2.2.2.2.2.2.2.1) && (Dv f.2.2.1 g.2.2.1 && (Dv f.2.2.2.1 g.2.2.2.1 &&
  (Dv f.2.2.2.2.2.1 g.2.2.2.2.2.1 && (Dv f.2.2.2.2.2.2.1 g.2.2.2.2.2.2.1 && (Dv f.2.2.2.2.2.2.2.2.2.1 g.2.2.2.2.2.2.2.2.2.1 && Dv f.2.2.2.2.2.2.2.2.2.2.1 g.2.2.2.2.2.2.2.2.2.2.1))))))))),()):=by
 unfold Ff Tc
 simp only[Ai,Aj,Ad,Ru,Al,Mo]
def B9 (f:Aa):Bool:=
 bif inR f.1 4 8 then(f.2.1==0) && (((f.2.2.1.length:Int)==0) && (((f.2.2.2.1.length:Int)==12) && ((f.2.2.2.2.1==0) && (((f.2.2.2.2.2.1.length:Int)==0) && (((f.2.2.2.2.2.2.1.length:Int)==0) && (inR f.2.2.2.2.2.2.2.1 0 4294967295 && (inR f.2.2.2.2.2.2.2.2.1 0 281474976710655 &&
  (He f.1 (f.2.2.2.2.2.2.2.2.2.1.length:Int) && ((f.2.2.2.2.2.2.2.2.2.2.1.length:Int)==16)))))))))
 else(f.2.2.2.2.2.2.2.1==0) && ((f.2.2.2.2.2.2.2.2.1==0) && (((f.2.2.2.2.2.2.2.2.2.1.length:Int)==0) && (((f.2.2.2.2.2.2.2.2.2.2.1.length:Int)==0) && (((f.2.2.1.length:Int)==12) &&
  (bif f.1==1 then inR f.2.1 1 9 && (((f.2.2.2.1.length:Int)==0) && ((f.2.2.2.2.1==0) && (((f.2.2.2.2.2.1.length:Int)==0) && ((f.2.2.2.2.2.2.1.length:Int)==0))))
   else bif f.1==2 then(f.2.1==0) && (((f.2.2.2.1.length:Int)==12) && (inR f.2.2.2.2.1 0 1000000 && (((f.2.2.2.2.2.1.length:Int)==16) && ((f.2.2.2.2.2.2.1.length:Int)==0))))
   else(f.1==3) && (inR f.2.1 1 9 && (((f.2.2.2.1.length:Int)==12) && (inR f.2.2.2.2.1 0 1000000 && (((f.2.2.2.2.2.1.length:Int)==16) && ((f.2.2.2.2.2.2.1.length:Int)==16))))))))))
theorem Ns (f:Aa):Id f=some (B9 f,()):=by
 unfold Id Ab0 B9
 simp only[Ai,Aj,Ad,Nh,Bv,Ap1,Al,M8,bne,Bool.cond_false_right,Bool.cond_true_left,Bool.cond_false_left,Bool.not_not]
theorem Nt (f:Aa):Gr f=some (B9 f,()):=by
 obtain⟨kind,id,cn,sn,tick,cookie,proof,epoch,seq,body,tag,_⟩:=f
 unfold Gr Acl B9
 simp only[Ai,Aj,Ad,Z2,B6,H2,A9f,Aoe,Aln,Ahq,beq_self_eq_true,Bool.true_and,Bool.and_true,Al,M8,Bool.cond_false_right,Bool.cond_true_left,Bool.cond_false_left,Bool.not_not]
 refine congrArg (fun b=>some (b,())) ?_
 by_cases h1:kind=1
 ·subst h1
  apply H3
  simp[inR]
  grind
 ·by_cases h2:kind=2
  ·subst h2
   apply H3
   simp[inR]
   grind
  ·by_cases h3:kind=3
   ·subst h3
    apply H3
    simp[inR]
    grind
   ·have e1:(kind==1)=false:=by simpa using h1
    have e2:(kind==2)=false:=by simpa using h2
    have e3:(kind==3)=false:=by simpa using h3
    rw[e1,e2,e3]
    cases inR kind 4 8 with
    |false=>simp
    |true=>
     cases hb:He kind (body.length:Int)with
     |false=>simp
     |true=>
      apply H3
      simp[inR]
      grind
end
end Go.Proofs.YtjlblagmjlmglaaGreat

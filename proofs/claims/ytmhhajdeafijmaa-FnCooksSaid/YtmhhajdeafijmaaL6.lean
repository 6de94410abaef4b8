/-
  That the program and the reference answer alike, in plain terms, and that the laws answer true.
-/
import Derived.Test.YtmhhajdeafijmaaL5
namespace Go.Proofs.Ytmhhajdeafijmaa
open Go.RowKit
set_option linter.unusedVariables false
set_option linter.unusedSimpArgs false
set_option maxHeartbeats 4000000
noncomputable section
theorem Aiu (n:YI):Ow n=some (inR n.1 4 8,()):=by
 unfold Ow Ov
 simp only[Ae,Ac,J2,Ag]
def Abv (k n:Int):Bool:=bif k==4 then decide (n≤40)else bif k==5 then n==12 else bif k==6 then n==12 else n==4
theorem Aiv (k n:YI):Oy k n=some (Abv k.1 n.1,()):=by
 unfold Oy Ox Abv
 simp only[Ad,Ac,Aj4]
def N7 (f:Ee):Bool:=
 bif inR f.1 4 8 then(f.2.1==0) && (((f.2.2.1.length:Int)==0) && (((f.2.2.2.1.length:Int)==12) && ((f.2.2.2.2.1==0) && (((f.2.2.2.2.2.1.length:Int)==0) && (((f.2.2.2.2.2.2.1.length:Int)==0) && (inR f.2.2.2.2.2.2.2.1 0 4294967295 && (inR f.2.2.2.2.2.2.2.2.1 0 281474976710655 &&
  (Abv f.1 (f.2.2.2.2.2.2.2.2.2.1.length:Int) && ((f.2.2.2.2.2.2.2.2.2.2.1.length:Int)==16)))))))))
 else(f.2.2.2.2.2.2.2.1==0) && ((f.2.2.2.2.2.2.2.2.1==0) && (((f.2.2.2.2.2.2.2.2.2.1.length:Int)==0) && (((f.2.2.2.2.2.2.2.2.2.2.1.length:Int)==0) && (((f.2.2.1.length:Int)==12) &&
  (bif f.1==1 then inR f.2.1 1 9 && (((f.2.2.2.1.length:Int)==0) && ((f.2.2.2.2.1==0) && (((f.2.2.2.2.2.1.length:Int)==0) && ((f.2.2.2.2.2.2.1.length:Int)==0))))
   else bif f.1==2 then(f.2.1==0) && (((f.2.2.2.1.length:Int)==12) && (inR f.2.2.2.2.1 0 1000000 && (((f.2.2.2.2.2.1.length:Int)==16) && ((f.2.2.2.2.2.2.1.length:Int)==0))))
   else(f.1==3) && (inR f.2.1 1 9 && (((f.2.2.2.1.length:Int)==12) && (inR f.2.2.2.2.1 0 1000000 && (((f.2.2.2.2.2.1.length:Int)==16) && ((f.2.2.2.2.2.2.1.length:Int)==16))))))))))
theorem Ahf (f:Ee):Mx f=some (N7 f,()):=by
 unfold Mx Mw N7
 simp only[Ad,Ae,Ac,Aiu,J2,Aiv,Ag,Aj4,bne,Bool.cond_false_right,Bool.cond_true_left,Bool.cond_false_left,Bool.not_not]
def Ps (f:Ee):List YB:=
 bif !N7 f then []else
 bif f.1==1 then(IntKind.u8.wrap f.1,())::(IntKind.u8.wrap f.2.1,())::(f.2.2.1++List.replicate 20 ((0:Int),()))
 else bif f.1==2 then(IntKind.u8.wrap f.1,())::(f.2.2.1++(f.2.2.2.1++(C7 f.2.2.2.2.1 4 4++f.2.2.2.2.2.1)))
 else bif f.1==3 then(IntKind.u8.wrap f.1,())::(IntKind.u8.wrap f.2.1,())::(f.2.2.1++(f.2.2.2.1++(C7 f.2.2.2.2.1 4 4++(f.2.2.2.2.2.1++f.2.2.2.2.2.2.1))))
 else(IntKind.u8.wrap f.1,())::(f.2.2.2.1++(C7 f.2.2.2.2.2.2.2.1 4 4++(C7 f.2.2.2.2.2.2.2.2.1 6 6++(f.2.2.2.2.2.2.2.2.2.2.1++f.2.2.2.2.2.2.2.2.2.1))))
theorem Aj9 (b:List YB) (hl:b.length≤1073741824):Am Dk (b,(0:Int),())=some (b++List.replicate 20 ((0:Int),()),()):=by
 have hr:=B9 (B:=Dk) 20 (fun i=>(b++List.replicate i ((0:Int),()),(i:Int),())) (b++List.replicate 20 ((0:Int),()),())
  (fun i hi=>by
   unfold Dk
   simp only[Ad,Ah,Ac]
   rw[Af zq0,Ap,Af zq2,Ar,w64 zq0,List.append_assoc,←List.replicate_succ']
   rfl)
  (by unfold Dk;simp only[Ad,Ac,Ah];rfl)
 simpa using hr
theorem Afq (f:Ee) (h:Df f≤536870912):Kw f=some (Ps f,()):=by
 obtain⟨kind,id,cn,sn,tick,cookie,proof,epoch,seq,body,tag,_⟩:=f
 simp only[Df]at h
 unfold Kw Kv Ps
 simp only[Ad,Ae,Ac,Ah,Ahf,Ag]
 cases N7 (kind,id,cn,sn,tick,cookie,proof,epoch,seq,body,tag,PUnit.unit)with
 |false=>rfl
 |true=>
  simp only[Bool.not_true,Aj,cond_false]
  cases kind==1 with
  |true=>
   simp only[Ap,cond_true]
   rw[Af zq3,Ar,Af zq2,Ar,Aj9 _ zq2]
   simp[ob]
  |false=>
   cases kind==2 with
   |true=>
    simp only[Ap,Aj,cond_true,cond_false]
    rw[Af zq2,Ar,Af zq2,Ar,Jj _ _ zq2,Ag,Af zq1,Ar]
    simp
   |false=>
    cases kind==3 with
    |true=>
     simp only[Ap,Aj,cond_true,cond_false]
     rw[Af zq3,Ar,Af zq2,Ar,Af zq2,Ar,Jj _ _ zq2,Ag,Af zq1,Ar,Af zq1,Ar]
     simp
    |false=>
     simp only[Aj,cond_false]
     rw[Af zq2,Ar,Jj _ _ zq2,Ag,Aj7 _ _ zq1,Ag,Af zq1,Ar,Af zq1,Ar]
     simp
end
end Go.Proofs.Ytmhhajdeafijmaa

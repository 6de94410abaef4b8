/-
  That the program and the reference answer alike, in plain terms, and that the laws answer true.
-/
import Derived.Test.YtmhhajdeafijmaaL5
namespace Go.Proofs.Ytmhhajdeafijmaa
open Go.RowKit
set_option linter.unusedVariables false
set_option linter.unusedSimpArgs false
set_option maxHeartbeats 4000000
noncomputable section
theorem Uk (n:YI):H8 n=some (inR n.1 4 8,()):=by
 unfold H8 Oq
 simp only[Af,Ac,Ej,Ae]
theorem Ul (n:YI):Ig n=some (inR n.1 4 8,()):=by
 unfold Ig O5
 simp only[Af,Ac,Lf,Ae]
def Er (k n:Int):Bool:=bif k==4 then decide (n≤40)else bif k==5 then n==12 else bif k==6 then n==12 else n==4
theorem Air (k n:YI):Ou k n=some (Er k.1 n.1,()):=by
 unfold Ou Ot Er
 simp only[Ad,Ac,Aaz]
theorem Abs (k n:YI):Kd k n=some (Er k.1 n.1,()):=by
 unfold Kd O6 Er
 simp only[Ad,Ac,Aaz]
theorem Adt (f g:Bc):D6 f g=some ((f.1==g.1) && ((f.2.1==g.2.1) && ((f.2.2.2.2.1==g.2.2.2.2.1) && ((f.2.2.2.2.2.2.2.1==g.2.2.2.2.2.2.2.1) && ((f.2.2.2.2.2.2.2.2.1==g.2.2.2.2.2.2.2.2.1) && (Ir f.2.2.1 g.2.2.1 && (Ir f.2.2.2.1 g.2.2.2.1 &&
  (Ir f.2.2.2.2.2.1 g.2.2.2.2.2.1 && (Ir f.2.2.2.2.2.2.1 g.2.2.2.2.2.2.1 && (Ir f.2.2.2.2.2.2.2.2.2.1 g.2.2.2.2.2.2.2.2.2.1 && Ir f.2.2.2.2.2.2.2.2.2.2.1 g.2.2.2.2.2.2.2.2.2.2.1))))))))),()):=by
 unfold D6 J3
 simp only[Ad,Af,Ac,Adr,Ae,Akw]
def Ck (f:Bc):Bool:=
 bif inR f.1 4 8 then(f.2.1==0) && (((f.2.2.1.length:Int)==0) && (((f.2.2.2.1.length:Int)==12) && ((f.2.2.2.2.1==0) && (((f.2.2.2.2.2.1.length:Int)==0) && (((f.2.2.2.2.2.2.1.length:Int)==0) && (inR f.2.2.2.2.2.2.2.1 0 4294967295 && (inR f.2.2.2.2.2.2.2.2.1 0 281474976710655 &&
  (Er f.1 (f.2.2.2.2.2.2.2.2.2.1.length:Int) && ((f.2.2.2.2.2.2.2.2.2.2.1.length:Int)==16)))))))))
 else(f.2.2.2.2.2.2.2.1==0) && ((f.2.2.2.2.2.2.2.2.1==0) && (((f.2.2.2.2.2.2.2.2.2.1.length:Int)==0) && (((f.2.2.2.2.2.2.2.2.2.2.1.length:Int)==0) && (((f.2.2.1.length:Int)==12) &&
  (bif f.1==1 then inR f.2.1 1 9 && (((f.2.2.2.1.length:Int)==0) && ((f.2.2.2.2.1==0) && (((f.2.2.2.2.2.1.length:Int)==0) && ((f.2.2.2.2.2.2.1.length:Int)==0))))
   else bif f.1==2 then(f.2.1==0) && (((f.2.2.2.1.length:Int)==12) && (inR f.2.2.2.2.1 0 1000000 && (((f.2.2.2.2.2.1.length:Int)==16) && ((f.2.2.2.2.2.2.1.length:Int)==0))))
   else(f.1==3) && (inR f.2.1 1 9 && (((f.2.2.2.1.length:Int)==12) && (inR f.2.2.2.2.1 0 1000000 && (((f.2.2.2.2.2.1.length:Int)==16) && ((f.2.2.2.2.2.2.1.length:Int)==16))))))))))
theorem Ahe (f:Bc):M0 f=some (Ck f,()):=by
 unfold M0 Mz Ck
 simp only[Ad,Af,Ac,Ul,Lf,Abs,Ae,Aaz,bne,Bool.cond_false_right,Bool.cond_true_left,Bool.cond_false_left,Bool.not_not]
theorem Rs (f:Bc):G6 f=some (Ck f,()):=by
 obtain⟨kind,id,cn,sn,tick,cookie,proof,epoch,seq,body,tag,_⟩:=f
 unfold G6 Mo Ck
 simp only[Ad,Af,Ac,Uk,Ej,Zs,Air,Adt,Ahc,Afm,beq_self_eq_true,Bool.true_and,Bool.and_true,Ae,Aaz,Bool.cond_false_right,Bool.cond_true_left,Bool.cond_false_left,Bool.not_not]
 refine congrArg (fun b=>some (b,())) ?_
 by_cases h1:kind=1
 ·subst h1
  apply Gv
  simp[inR]
  grind
 ·by_cases h2:kind=2
  ·subst h2
   apply Gv
   simp[inR]
   grind
  ·by_cases h3:kind=3
   ·subst h3
    apply Gv
    simp[inR]
    grind
   ·have e1:(kind==1)=false:=by simpa using h1
    have e2:(kind==2)=false:=by simpa using h2
    have e3:(kind==3)=false:=by simpa using h3
    rw[e1,e2,e3]
    cases inR kind 4 8 with
    |false=>simp
    |true=>
     cases hb:Er kind (body.length:Int)with
     |false=>simp
     |true=>
      apply Gv
      simp[inR]
      grind
def Lg (f:Bc):List YB:=
 bif !Ck f then []else
 bif f.1==1 then(IntKind.u8.wrap f.1,())::(IntKind.u8.wrap f.2.1,())::(f.2.2.1++List.replicate 20 ((0:Int),()))
 else bif f.1==2 then(IntKind.u8.wrap f.1,())::(f.2.2.1++(f.2.2.2.1++(Bm f.2.2.2.2.1 4 4++f.2.2.2.2.2.1)))
 else bif f.1==3 then(IntKind.u8.wrap f.1,())::(IntKind.u8.wrap f.2.1,())::(f.2.2.1++(f.2.2.2.1++(Bm f.2.2.2.2.1 4 4++(f.2.2.2.2.2.1++f.2.2.2.2.2.2.1))))
 else(IntKind.u8.wrap f.1,())::(f.2.2.2.1++(Bm f.2.2.2.2.2.2.2.1 4 4++(Bm f.2.2.2.2.2.2.2.2.1 6 6++(f.2.2.2.2.2.2.2.2.2.2.1++f.2.2.2.2.2.2.2.2.2.1))))
theorem Afn (f:Bc) (h:Bo f≤536870912):K3 f=some (Lg f,()):=by
 obtain⟨kind,id,cn,sn,tick,cookie,proof,epoch,seq,body,tag,_⟩:=f
 simp only[Bo]at h
 unfold K3 K2 Lg
 simp only[Ad,Af,Ac,Aj,Rs,Ae]
 cases Ck (kind,id,cn,sn,tick,cookie,proof,epoch,seq,body,tag,PUnit.unit)with
 |false=>rfl
 |true=>
  simp only[Bool.not_true,Am,cond_false]
  cases kind==1 with
  |true=>
   simp only[Ay,cond_true]
   rw[Da _ (by simp[cat];omega) zq1]
   simp[ob,cat]
  |false=>
   cases kind==2 with
   |true=>
    simp only[Ay,Am,cond_true,cond_false]
    rw[I9 _ _ zq1,Ae,Da _ zq2 zq1]
    simp[ob,cat]
   |false=>
    cases kind==3 with
    |true=>
     simp only[Ay,Am,cond_true,cond_false]
     rw[I9 _ _ zq1,Ae,Da _ zq2 zq1]
     simp[ob,cat]
    |false=>
     simp only[Am,cond_false]
     rw[I9 _ _ zq1,Ae,Sq _ _ zq1,Ae,Da _ zq2 zq1]
     simp[ob,cat]
end
end Go.Proofs.Ytmhhajdeafijmaa

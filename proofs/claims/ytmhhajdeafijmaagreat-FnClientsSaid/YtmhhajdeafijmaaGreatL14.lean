/-
  That the program and the reference answer alike, in plain terms, and that the laws answer true.
-/
import Derived.Test.YtmhhajdeafijmaaGreatL13
namespace Go.Proofs.YtmhhajdeafijmaaGreat
open Go.RowKit
set_option linter.unusedVariables false
set_option linter.unusedSimpArgs false
set_option maxRecDepth 100000
set_option maxHeartbeats 4000000
noncomputable section
def Hc (t:B0):Bool:=and (t.1==false) (and (t.2.1==(0:Int)) (and (t.2.2.1==(0:Int)) (and (t.2.2.2.1==(0:Int)) true)))
def Fk (t:B0):Bool:=bif !t.1 then Hc t else inR t.2.1 0 1000008 && (inR t.2.2.2.1 1 5 && ((t.2.2.1==1) || ((t.2.2.1==2) || ((t.2.2.1==4) || (t.2.2.1==8)))))
theorem A7p (t:B0):Mc t=some (Fk t,()):=by
 unfold Mc Aci Fk Hc
 simp only[Aj,Al,Af,Ch,An,Mz,Option.some.injEq,Prod.mk.injEq,and_true]
 cases t.1<;>cases (t.2.2.1==(1:Int))<;>cases (t.2.2.1==(2:Int))<;>cases (t.2.2.1==(4:Int))<;>cases (t.2.2.1==(8:Int))<;>cases inR t.2.1 0 1000008<;>cases inR t.2.2.2.1 1 5<;>rfl
theorem Awd (t:B0):J3 t=some (Fk t,()):=by
 unfold J3 Ab0 Fk Hc
 simp only[Aj,Al,Af,Cz,An,Mz,Option.some.injEq,Prod.mk.injEq,and_true]
 cases t.1<;>cases (t.2.2.1==(1:Int))<;>cases (t.2.2.1==(2:Int))<;>cases (t.2.2.1==(4:Int))<;>cases (t.2.2.1==(8:Int))<;>cases inR t.2.1 0 1000008<;>cases inR t.2.2.2.1 1 5<;>rfl
theorem Abf (t:B0):Hc t=(!t.1 && Fk t):=by
 unfold Fk Hc
 cases t.1<;>simp
abbrev Fw (c:Ac):Ab:=(c.2.2.2.2.2.2.1,c.2.2.2.2.2.2.2.1,c.2.2.2.2.2.2.2.2.1,c.2.2.2.2.2.2.2.2.2.1,c.2.2.2.2.2.2.2.2.2.2.1,c.2.2.2.2.2.2.2.2.2.2.2.1,c.2.2.2.2.2.2.2.2.2.2.2.2.1,c.2.2.2.2.2.2.2.2.2.2.2.2.2.1,c.2.2.2.2.2.2.2.2.2.2.2.2.2.2.1,c.2.2.2.2.2.2.2.2.2.2.2.2.2.2.2.1,c.2.2.2.2.2.2.2.2.2.2.2.2.2.2.2.2.1,())
abbrev C0 (c:Ac):Ai:=(c.2.2.2.2.2.2.2.2.2.2.2.2.2.2.2.2.2.1,c.2.2.2.2.2.2.2.2.2.2.2.2.2.2.2.2.2.2.1,c.2.2.2.2.2.2.2.2.2.2.2.2.2.2.2.2.2.2.2.1,c.2.2.2.2.2.2.2.2.2.2.2.2.2.2.2.2.2.2.2.2.1,c.2.2.2.2.2.2.2.2.2.2.2.2.2.2.2.2.2.2.2.2.2.1,c.2.2.2.2.2.2.2.2.2.2.2.2.2.2.2.2.2.2.2.2.2.2.1,c.2.2.2.2.2.2.2.2.2.2.2.2.2.2.2.2.2.2.2.2.2.2.2.1,c.2.2.2.2.2.2.2.2.2.2.2.2.2.2.2.2.2.2.2.2.2.2.2.2.1,c.2.2.2.2.2.2.2.2.2.2.2.2.2.2.2.2.2.2.2.2.2.2.2.2.2.1,c.2.2.2.2.2.2.2.2.2.2.2.2.2.2.2.2.2.2.2.2.2.2.2.2.2.2.1,c.2.2.2.2.2.2.2.2.2.2.2.2.2.2.2.2.2.2.2.2.2.2.2.2.2.2.2.1,c.2.2.2.2.2.2.2.2.2.2.2.2.2.2.2.2.2.2.2.2.2.2.2.2.2.2.2.2.1,c.2.2.2.2.2.2.2.2.2.2.2.2.2.2.2.2.2.2.2.2.2.2.2.2.2.2.2.2.2.1,c.2.2.2.2.2.2.2.2.2.2.2.2.2.2.2.2.2.2.2.2.2.2.2.2.2.2.2.2.2.2.1,c.2.2.2.2.2.2.2.2.2.2.2.2.2.2.2.2.2.2.2.2.2.2.2.2.2.2.2.2.2.2.2.1,())
abbrev clT (c:Ac):B0:=(c.2.2.2.2.2.2.2.2.2.2.2.2.2.2.2.2.2.2.2.2.2.2.2.2.2.2.2.2.2.2.2.2.1,c.2.2.2.2.2.2.2.2.2.2.2.2.2.2.2.2.2.2.2.2.2.2.2.2.2.2.2.2.2.2.2.2.2.1,c.2.2.2.2.2.2.2.2.2.2.2.2.2.2.2.2.2.2.2.2.2.2.2.2.2.2.2.2.2.2.2.2.2.2.1,c.2.2.2.2.2.2.2.2.2.2.2.2.2.2.2.2.2.2.2.2.2.2.2.2.2.2.2.2.2.2.2.2.2.2.2.1,())
abbrev clR (c:Ac):B0:=(c.2.2.2.2.2.2.2.2.2.2.2.2.2.2.2.2.2.2.2.2.2.2.2.2.2.2.2.2.2.2.2.2.2.2.2.2.1,c.2.2.2.2.2.2.2.2.2.2.2.2.2.2.2.2.2.2.2.2.2.2.2.2.2.2.2.2.2.2.2.2.2.2.2.2.2.1,c.2.2.2.2.2.2.2.2.2.2.2.2.2.2.2.2.2.2.2.2.2.2.2.2.2.2.2.2.2.2.2.2.2.2.2.2.2.2.1,c.2.2.2.2.2.2.2.2.2.2.2.2.2.2.2.2.2.2.2.2.2.2.2.2.2.2.2.2.2.2.2.2.2.2.2.2.2.2.2.1,())
abbrev Azp (c:Ac):Int:=c.2.2.2.2.2.2.2.2.2.2.2.2.2.2.2.2.2.2.2.2.2.2.2.2.2.2.2.2.2.2.2.2.2.2.2.2.2.2.2.2.1
def frZ (f:Ab):Bool:=(f.1==0) && ((f.2.1==0) && (((f.2.2.1.length:Int)==0) && (((f.2.2.2.1.length:Int)==0) && ((f.2.2.2.2.1==0) && (((f.2.2.2.2.2.1.length:Int)==0) && (((f.2.2.2.2.2.2.1.length:Int)==0) && ((f.2.2.2.2.2.2.2.1==0) && ((f.2.2.2.2.2.2.2.2.1==0) &&
 (((f.2.2.2.2.2.2.2.2.2.1.length:Int)==0) && ((f.2.2.2.2.2.2.2.2.2.2.1.length:Int)==0))))))))))
theorem Azq (f:Ab):Id f=some (frZ f,()):=by
 unfold Id Pz frZ
 simp only[Aj,Al,Af,Mj]
theorem Azr (f:Ab):E9 f ((0:Int),(0:Int),([]:List (Int×Unit)),([]:List (Int×Unit)),(0:Int),([]:List (Int×Unit)),([]:List (Int×Unit)),(0:Int),(0:Int),([]:List (Int×Unit)),([]:List (Int×Unit)),())=some (frZ f,()):=by
 rw[Aow]
 unfold frZ
 simp only[Al5]
 refine congrArg (fun b=>some (b,())) ?_
 apply Hw
 simp only[Bool.and_eq_true]
 constructor<;>(rintro⟨h1,h2,h3,h4,h5,h6,h7,h8,h9,h10,h11⟩;simp only[*,and_self])
theorem A5g (st:Int) (cnz cn12 f0 c0 ch role0 fin3 finId finOk finCn sn Ton Tok Ron Rok l0 lin nx old nz np:Bool) (hl:l0=true→lin=true):
  (bif st==0 then(cnz && (f0 && (c0 && ((!Ton && Tok) && ((!Ron && Rok) && l0)))))else bif st==1 then(cn12 && (f0 && (c0 && (Ton && (Tok && ((!Ron && Rok) && l0))))))else
   bif st==2 then((cn12 && (fin3 && (finOk && (finId && (finCn && (ch && (role0 && (sn && (old && (!nx && nz)))))))))) && (Ton && (Tok && ((!Ron && Rok) && l0))))else
   bif st==3 then(cn12 && (f0 && (ch && (role0 && ((!Ton && Tok) && (Rok && ((Ron==np) && lin)))))))else false)=
  (Tok && (Rok && (lin && (bif st==0 then(cnz && (f0 && (c0 && (!Ton && (!Ron && l0)))))else(cn12 && (bif st==3 then(f0 && (ch && (role0 && (!Ton && (Ron==np)))))else
   (Ton && (!Ron && (l0 && (bif st==1 then(f0 && c0)else(st==2 && (finOk && (fin3 && (finId && (finCn && (ch && (role0 && (sn && (old && (!nx && nz)))))))))))))))))))):=by
 by_cases h0:st=0
 ·subst h0;cases Tok<;>cases Rok<;>cases l0<;>simp_all
 ·by_cases h1:st=1
  ·subst h1;cases Tok<;>cases Rok<;>cases l0<;>cases Ton<;>cases Ron<;>simp_all
  ·by_cases h2:st=2
   ·subst h2;cases Tok<;>cases Rok<;>cases l0<;>cases Ton<;>cases Ron<;>cases finOk<;>simp_all
   ·by_cases h3:st=3
    ·subst h3;cases Tok<;>cases Rok<;>cases lin<;>cases Ton<;>simp_all
    ·have e0:(st==0)=false:=by simpa using h0
     have e1:(st==1)=false:=by simpa using h1
     have e2:(st==2)=false:=by simpa using h2
     have e3:(st==3)=false:=by simpa using h3
     simp[e0,e1,e2,e3]

def Bw (c:Ac):Bool:=
 inR c.1 1 9 && (Km (c.2.1,()) && (Pc (c.2.2.1,c.2.2.2.1,()) &&
  (bif c.2.2.2.2.1==0 then(((c.2.2.2.2.2.1.length:Int)==0) && (frZ (Fw c) && (Ah7 (C0 c) && (Hc (clT c) && (Hc (clR c) && (c.2.2.2.2.2.2.2.2.2.2.2.2.2.2.2.2.2.2.2.2.2.2.2.2.2.2.2.2.2.2.2.2.2.2.2.2.2.2.2.2.1==0))))))else
   bif c.2.2.2.2.1==1 then(((c.2.2.2.2.2.1.length:Int)==12) && (frZ (Fw c) && (Ah7 (C0 c) && (c.2.2.2.2.2.2.2.2.2.2.2.2.2.2.2.2.2.2.2.2.2.2.2.2.2.2.2.2.2.2.2.2.1 && (Fk (clT c) && (Hc (clR c) && (c.2.2.2.2.2.2.2.2.2.2.2.2.2.2.2.2.2.2.2.2.2.2.2.2.2.2.2.2.2.2.2.2.2.2.2.2.2.2.2.2.1==0)))))))else
   bif c.2.2.2.2.1==2 then((((c.2.2.2.2.2.1.length:Int)==12) && ((c.2.2.2.2.2.2.1==3) && (Cc (Fw c) && ((c.2.2.2.2.2.2.2.1==c.1) && (Dq c.2.2.2.2.2.2.2.2.1 c.2.2.2.2.2.1 && (B4 (C0 c) && ((c.2.2.2.2.2.2.2.2.2.2.2.2.2.2.2.2.2.1==0) && (Dq c.2.2.2.2.2.2.2.2.2.2.2.2.2.2.2.2.2.2.1 c.2.2.2.2.2.2.2.2.2.1 && ((c.2.2.2.2.2.2.2.2.2.2.2.2.2.2.2.2.2.2.2.1==0) && (!c.2.2.2.2.2.2.2.2.2.2.2.2.2.2.2.2.2.2.2.2.2.2.2.2.2.2.2.2.2.1 && ((c.2.2.2.2.2.2.2.2.2.2.2.2.2.2.2.2.2.2.2.2.2.2.2.2.2.2.2.2.2.2.2.1.length:Int)==0))))))))))) && (c.2.2.2.2.2.2.2.2.2.2.2.2.2.2.2.2.2.2.2.2.2.2.2.2.2.2.2.2.2.2.2.2.1 && (Fk (clT c) && (Hc (clR c) && (c.2.2.2.2.2.2.2.2.2.2.2.2.2.2.2.2.2.2.2.2.2.2.2.2.2.2.2.2.2.2.2.2.2.2.2.2.2.2.2.2.1==0)))))else
   bif c.2.2.2.2.1==3 then(((c.2.2.2.2.2.1.length:Int)==12) && (frZ (Fw c) && (B4 (C0 c) && ((c.2.2.2.2.2.2.2.2.2.2.2.2.2.2.2.2.2.1==0) && (Hc (clT c) && (Fk (clR c) && ((c.2.2.2.2.2.2.2.2.2.2.2.2.2.2.2.2.2.2.2.2.2.2.2.2.2.2.2.2.2.2.2.2.2.2.2.2.1==decide ((c.2.2.2.2.2.2.2.2.2.2.2.2.2.2.2.2.2.2.2.2.2.2.2.2.2.2.2.2.2.2.2.1.length:Int)>0)) && inR c.2.2.2.2.2.2.2.2.2.2.2.2.2.2.2.2.2.2.2.2.2.2.2.2.2.2.2.2.2.2.2.2.2.2.2.2.2.2.2.2.1 0 1000000)))))))else false)))
theorem A5h (c:Ac) (h:Ao c≤4294967296):X4 c=some ((((c.2.2.2.2.2.1.length:Int)==12) && ((c.2.2.2.2.2.2.1==3) && (Cc (Fw c) && ((c.2.2.2.2.2.2.2.1==c.1) && (Dq c.2.2.2.2.2.2.2.2.1 c.2.2.2.2.2.1 && (B4 (C0 c) && ((c.2.2.2.2.2.2.2.2.2.2.2.2.2.2.2.2.2.1==0) && (Dq c.2.2.2.2.2.2.2.2.2.2.2.2.2.2.2.2.2.2.1 c.2.2.2.2.2.2.2.2.2.1 && ((c.2.2.2.2.2.2.2.2.2.2.2.2.2.2.2.2.2.2.2.1==0) && (!c.2.2.2.2.2.2.2.2.2.2.2.2.2.2.2.2.2.2.2.2.2.2.2.2.2.2.2.2.2.1 && ((c.2.2.2.2.2.2.2.2.2.2.2.2.2.2.2.2.2.2.2.2.2.2.2.2.2.2.2.2.2.2.2.1.length:Int)==0))))))))))),()):=by
 simp only[Ao]at h
 unfold X4 X3
 simp (disch:=first|omega|(dsimp only;omega)) only[Aj,Al,Af,I4,La,Z4,Rs,An,Mz,bne,Bool.cond_false_right,Bool.cond_true_left,Bool.cond_false_left,Bool.not_not]
theorem Wy (c:Ac) (h:Ao c≤4294967296):Gz c=some (Bw c,()):=by
 have h':=h
 simp only[Ao]at h
 unfold Gz X5 Bw
 simp (disch:=first|omega|(dsimp only;omega)) only[Aj,Al,Af,Ch,Auq,Azb,Azr,Aze,I4,A7p,A5h,Z4,An,Mz,bne,Bool.cond_false_right,Bool.cond_true_left,Bool.cond_false_left,Bool.not_not]
 rfl
theorem Ail (c:Ac):Ie c=some (Bw c,()):=by
 unfold Ie Xc
 simp only[Aj,Al,Af,Cz,Ane,Azc,Azq,A2e,Awd,No,Z5,Ah5,An,Mz,bne,Bool.cond_false_right,Bool.cond_true_left,Bool.cond_false_left,Bool.not_not]
 unfold Bw
 rw[Abf (clT c),Abf (clR c)]
 rw[A5g c.2.2.2.2.1 ((c.2.2.2.2.2.1.length:Int)==0) ((c.2.2.2.2.2.1.length:Int)==12) (frZ (Fw c)) (Ah7 (C0 c)) (B4 (C0 c)) (c.2.2.2.2.2.2.2.2.2.2.2.2.2.2.2.2.2.1==0) (c.2.2.2.2.2.2.1==3) (c.2.2.2.2.2.2.2.1==c.1) (Cc (Fw c)) (Dq c.2.2.2.2.2.2.2.2.1 c.2.2.2.2.2.1) (Dq c.2.2.2.2.2.2.2.2.2.2.2.2.2.2.2.2.2.2.1 c.2.2.2.2.2.2.2.2.2.1) c.2.2.2.2.2.2.2.2.2.2.2.2.2.2.2.2.2.2.2.2.2.2.2.2.2.2.2.2.2.2.2.2.1 (Fk (clT c)) c.2.2.2.2.2.2.2.2.2.2.2.2.2.2.2.2.2.2.2.2.2.2.2.2.2.2.2.2.2.2.2.2.2.2.2.2.1 (Fk (clR c)) (c.2.2.2.2.2.2.2.2.2.2.2.2.2.2.2.2.2.2.2.2.2.2.2.2.2.2.2.2.2.2.2.2.2.2.2.2.2.2.2.2.1==0) (inR c.2.2.2.2.2.2.2.2.2.2.2.2.2.2.2.2.2.2.2.2.2.2.2.2.2.2.2.2.2.2.2.2.2.2.2.2.2.2.2.2.1 0 1000000) c.2.2.2.2.2.2.2.2.2.2.2.2.2.2.2.2.2.2.2.2.2.2.2.2.2.2.2.2.2.1 (c.2.2.2.2.2.2.2.2.2.2.2.2.2.2.2.2.2.2.2.1==0) ((c.2.2.2.2.2.2.2.2.2.2.2.2.2.2.2.2.2.2.2.2.2.2.2.2.2.2.2.2.2.2.2.1.length:Int)==0) (decide ((c.2.2.2.2.2.2.2.2.2.2.2.2.2.2.2.2.2.2.2.2.2.2.2.2.2.2.2.2.2.2.2.1.length:Int)>0)) (fun e=>by simp at e;rw[e];rfl)]
theorem Aoy (d:Ab) (h:Ar d≤4294967296):Mu d=some d:=by
 simp only[Ar]at h
 unfold Mu S6
 simp (disch:=first|omega|(dsimp only;omega)) only[Al,Af,C4,An]
theorem Aim (d:Ab) (h:Ar d≤4294967296):Lj d=some d:=by
 simp only[Ar]at h
 unfold Lj Afj
 simp (disch:=first|omega|(dsimp only;omega)) only[Aq,Af,List.length_nil,Nat.zero_add,List.nil_append,Ap,Bd]
theorem Pi (d:Ac) (h:Ao d≤4294967296):Ct d=some d:=by
 simp only[Ao]at h
 unfold Ct Qf
 simp (disch:=first|omega|(dsimp only;omega)|(simp only[A0];omega)|(simp only[Ar];omega)) only[Al,Af,C4,Aoy,Aih,An]
theorem Awe (d:Ac) (h:Ao d≤4294967296):Q6 d=some d:=by
 simp only[Ao]at h
 unfold Q6 Abz
 simp (disch:=first|omega|(dsimp only;omega)|(simp only[A0];omega)|(simp only[Ar];omega)) only[Al,Aq,Af,Aim,Abe,An,List.length_nil,Nat.zero_add,List.nil_append,Ap,Bd]
theorem A2k:Zd=Dg:=by
 funext n
 unfold Zd Zc Dg Kq
 simp only[Aj,Al,Af,Ch,Cz,An]
end
end Go.Proofs.YtmhhajdeafijmaaGreat

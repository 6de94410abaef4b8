/-
  That the program and the reference answer alike, in plain terms, and that the laws answer true.
-/
import Derived.Test.YtmhhajdeafijmaaGreatL13
namespace Go.Proofs.YtmhhajdeafijmaaGreat
open Go.RowKit
set_option linter.unusedVariables false
set_option linter.unusedSimpArgs false
set_option maxRecDepth 100000
set_option maxHeartbeats 4000000
noncomputable section
def Gs (t:A9):Bool:=and (t.1==false) (and (t.2.1==(0:Int)) (and (t.2.2.1==(0:Int)) (and (t.2.2.2.1==(0:Int)) true)))
def Bp (t:A9):Bool:=bif !t.1 then Gs t else inR t.2.1 0 1000008 && (inR t.2.2.2.1 1 5 && ((t.2.2.1==1) || ((t.2.2.1==2) || ((t.2.2.1==4) || (t.2.2.1==8)))))
theorem Avz (t:A9):Km t=some (Bp t,()):=by
 unfold Km Ac6 Bp Gs
 simp only[Ag,Ai,Ad,Br,Aj,Nt,Option.some.injEq,Prod.mk.injEq,and_true]
 cases t.1<;>cases (t.2.2.1==(1:Int))<;>cases (t.2.2.1==(2:Int))<;>cases (t.2.2.1==(4:Int))<;>cases (t.2.2.1==(8:Int))<;>cases inR t.2.1 0 1000008<;>cases inR t.2.2.2.1 1 5<;>rfl
theorem Td (t:A9):Kl t=some (Bp t,()):=by
 unfold Kl Acn Bp Gs
 simp only[Ag,Ai,Ad,Cb,Aj,Nt,Option.some.injEq,Prod.mk.injEq,and_true]
 cases t.1<;>cases (t.2.2.1==(1:Int))<;>cases (t.2.2.1==(2:Int))<;>cases (t.2.2.1==(4:Int))<;>cases (t.2.2.1==(8:Int))<;>cases inR t.2.1 0 1000008<;>cases inR t.2.2.2.1 1 5<;>rfl
theorem Aby (t:A9):Gs t=(!t.1 && Bp t):=by
 unfold Bp Gs
 cases t.1<;>simp
abbrev Cr (c:Ab):Aa:=(c.2.2.2.2.2.2.1,c.2.2.2.2.2.2.2.1,c.2.2.2.2.2.2.2.2.1,c.2.2.2.2.2.2.2.2.2.1,c.2.2.2.2.2.2.2.2.2.2.1,c.2.2.2.2.2.2.2.2.2.2.2.1,c.2.2.2.2.2.2.2.2.2.2.2.2.1,c.2.2.2.2.2.2.2.2.2.2.2.2.2.1,c.2.2.2.2.2.2.2.2.2.2.2.2.2.2.1,c.2.2.2.2.2.2.2.2.2.2.2.2.2.2.2.1,c.2.2.2.2.2.2.2.2.2.2.2.2.2.2.2.2.1,())
abbrev Bm (c:Ab):Af:=(c.2.2.2.2.2.2.2.2.2.2.2.2.2.2.2.2.2.1,c.2.2.2.2.2.2.2.2.2.2.2.2.2.2.2.2.2.2.1,c.2.2.2.2.2.2.2.2.2.2.2.2.2.2.2.2.2.2.2.1,c.2.2.2.2.2.2.2.2.2.2.2.2.2.2.2.2.2.2.2.2.1,c.2.2.2.2.2.2.2.2.2.2.2.2.2.2.2.2.2.2.2.2.2.1,c.2.2.2.2.2.2.2.2.2.2.2.2.2.2.2.2.2.2.2.2.2.2.1,c.2.2.2.2.2.2.2.2.2.2.2.2.2.2.2.2.2.2.2.2.2.2.2.1,c.2.2.2.2.2.2.2.2.2.2.2.2.2.2.2.2.2.2.2.2.2.2.2.2.1,c.2.2.2.2.2.2.2.2.2.2.2.2.2.2.2.2.2.2.2.2.2.2.2.2.2.1,c.2.2.2.2.2.2.2.2.2.2.2.2.2.2.2.2.2.2.2.2.2.2.2.2.2.2.1,c.2.2.2.2.2.2.2.2.2.2.2.2.2.2.2.2.2.2.2.2.2.2.2.2.2.2.2.1,c.2.2.2.2.2.2.2.2.2.2.2.2.2.2.2.2.2.2.2.2.2.2.2.2.2.2.2.2.1,c.2.2.2.2.2.2.2.2.2.2.2.2.2.2.2.2.2.2.2.2.2.2.2.2.2.2.2.2.2.1,c.2.2.2.2.2.2.2.2.2.2.2.2.2.2.2.2.2.2.2.2.2.2.2.2.2.2.2.2.2.2.1,c.2.2.2.2.2.2.2.2.2.2.2.2.2.2.2.2.2.2.2.2.2.2.2.2.2.2.2.2.2.2.2.1,())
abbrev clT (c:Ab):A9:=(c.2.2.2.2.2.2.2.2.2.2.2.2.2.2.2.2.2.2.2.2.2.2.2.2.2.2.2.2.2.2.2.2.1,c.2.2.2.2.2.2.2.2.2.2.2.2.2.2.2.2.2.2.2.2.2.2.2.2.2.2.2.2.2.2.2.2.2.1,c.2.2.2.2.2.2.2.2.2.2.2.2.2.2.2.2.2.2.2.2.2.2.2.2.2.2.2.2.2.2.2.2.2.2.1,c.2.2.2.2.2.2.2.2.2.2.2.2.2.2.2.2.2.2.2.2.2.2.2.2.2.2.2.2.2.2.2.2.2.2.2.1,())
abbrev clR (c:Ab):A9:=(c.2.2.2.2.2.2.2.2.2.2.2.2.2.2.2.2.2.2.2.2.2.2.2.2.2.2.2.2.2.2.2.2.2.2.2.2.1,c.2.2.2.2.2.2.2.2.2.2.2.2.2.2.2.2.2.2.2.2.2.2.2.2.2.2.2.2.2.2.2.2.2.2.2.2.2.1,c.2.2.2.2.2.2.2.2.2.2.2.2.2.2.2.2.2.2.2.2.2.2.2.2.2.2.2.2.2.2.2.2.2.2.2.2.2.2.1,c.2.2.2.2.2.2.2.2.2.2.2.2.2.2.2.2.2.2.2.2.2.2.2.2.2.2.2.2.2.2.2.2.2.2.2.2.2.2.2.1,())
abbrev Dr (c:Ab):Int:=c.2.2.2.2.2.2.2.2.2.2.2.2.2.2.2.2.2.2.2.2.2.2.2.2.2.2.2.2.2.2.2.2.2.2.2.2.2.2.2.2.1
def frZ (f:Aa):Bool:=(f.1==0) && ((f.2.1==0) && (((f.2.2.1.length:Int)==0) && (((f.2.2.2.1.length:Int)==0) && ((f.2.2.2.2.1==0) && (((f.2.2.2.2.2.1.length:Int)==0) && (((f.2.2.2.2.2.2.1.length:Int)==0) && ((f.2.2.2.2.2.2.2.1==0) && ((f.2.2.2.2.2.2.2.2.1==0) &&
 (((f.2.2.2.2.2.2.2.2.2.1.length:Int)==0) && ((f.2.2.2.2.2.2.2.2.2.2.1.length:Int)==0))))))))))
theorem Azb (f:Aa):I9 f=some (frZ f,()):=by
 unfold I9 Qm frZ
 simp only[Ag,Ai,Ad,M9]
theorem Azc (f:Aa):Fm f ((0:Int),(0:Int),([]:List (Int×Unit)),([]:List (Int×Unit)),(0:Int),([]:List (Int×Unit)),([]:List (Int×Unit)),(0:Int),(0:Int),([]:List (Int×Unit)),([]:List (Int×Unit)),())=some (frZ f,()):=by
 rw[Aos]
 unfold frZ
 simp only[Alv]
 refine congrArg (fun b=>some (b,())) ?_
 apply Ib
 simp only[Bool.and_eq_true]
 constructor<;>(rintro⟨h1,h2,h3,h4,h5,h6,h7,h8,h9,h10,h11⟩;simp only[*,and_self])
theorem A4s (st:Int) (cnz cn12 f0 c0 ch role0 fin3 finId finOk finCn sn Ton Tok Ron Rok l0 lin nx old nz np:Bool) (hl:l0=true→lin=true):
  (bif st==0 then(cnz && (f0 && (c0 && ((!Ton && Tok) && ((!Ron && Rok) && l0)))))else bif st==1 then(cn12 && (f0 && (c0 && (Ton && (Tok && ((!Ron && Rok) && l0))))))else
   bif st==2 then((cn12 && (fin3 && (finOk && (finId && (finCn && (ch && (role0 && (sn && (old && (!nx && nz)))))))))) && (Ton && (Tok && ((!Ron && Rok) && l0))))else
   bif st==3 then(cn12 && (f0 && (ch && (role0 && ((!Ton && Tok) && (Rok && ((Ron==np) && lin)))))))else false)=
  (Tok && (Rok && (lin && (bif st==0 then(cnz && (f0 && (c0 && (!Ton && (!Ron && l0)))))else(cn12 && (bif st==3 then(f0 && (ch && (role0 && (!Ton && (Ron==np)))))else
   (Ton && (!Ron && (l0 && (bif st==1 then(f0 && c0)else(st==2 && (finOk && (fin3 && (finId && (finCn && (ch && (role0 && (sn && (old && (!nx && nz)))))))))))))))))))):=by
 by_cases h0:st=0
 ·subst h0;cases Tok<;>cases Rok<;>cases l0<;>simp_all
 ·by_cases h1:st=1
  ·subst h1;cases Tok<;>cases Rok<;>cases l0<;>cases Ton<;>cases Ron<;>simp_all
  ·by_cases h2:st=2
   ·subst h2;cases Tok<;>cases Rok<;>cases l0<;>cases Ton<;>cases Ron<;>cases finOk<;>simp_all
   ·by_cases h3:st=3
    ·subst h3;cases Tok<;>cases Rok<;>cases lin<;>cases Ton<;>simp_all
    ·have e0:(st==0)=false:=by simpa using h0
     have e1:(st==1)=false:=by simpa using h1
     have e2:(st==2)=false:=by simpa using h2
     have e3:(st==3)=false:=by simpa using h3
     simp[e0,e1,e2,e3]

def A0 (c:Ab):Bool:=
 inR c.1 1 9 && (Gx (c.2.1,()) && (Gc (c.2.2.1,c.2.2.2.1,()) &&
  (bif c.2.2.2.2.1==0 then(((c.2.2.2.2.2.1.length:Int)==0) && (frZ (Cr c) && (Ah8 (Bm c) && (Gs (clT c) && (Gs (clR c) && (c.2.2.2.2.2.2.2.2.2.2.2.2.2.2.2.2.2.2.2.2.2.2.2.2.2.2.2.2.2.2.2.2.2.2.2.2.2.2.2.2.1==0))))))else
   bif c.2.2.2.2.1==1 then(((c.2.2.2.2.2.1.length:Int)==12) && (frZ (Cr c) && (Ah8 (Bm c) && (c.2.2.2.2.2.2.2.2.2.2.2.2.2.2.2.2.2.2.2.2.2.2.2.2.2.2.2.2.2.2.2.2.1 && (Bp (clT c) && (Gs (clR c) && (c.2.2.2.2.2.2.2.2.2.2.2.2.2.2.2.2.2.2.2.2.2.2.2.2.2.2.2.2.2.2.2.2.2.2.2.2.2.2.2.2.1==0)))))))else
   bif c.2.2.2.2.1==2 then((((c.2.2.2.2.2.1.length:Int)==12) && ((c.2.2.2.2.2.2.1==3) && (Bg (Cr c) && ((c.2.2.2.2.2.2.2.1==c.1) && (Dt c.2.2.2.2.2.2.2.2.1 c.2.2.2.2.2.1 && (Bd (Bm c) && ((c.2.2.2.2.2.2.2.2.2.2.2.2.2.2.2.2.2.1==0) && (Dt c.2.2.2.2.2.2.2.2.2.2.2.2.2.2.2.2.2.2.1 c.2.2.2.2.2.2.2.2.2.1 && ((c.2.2.2.2.2.2.2.2.2.2.2.2.2.2.2.2.2.2.2.1==0) && (!c.2.2.2.2.2.2.2.2.2.2.2.2.2.2.2.2.2.2.2.2.2.2.2.2.2.2.2.2.2.1 && ((c.2.2.2.2.2.2.2.2.2.2.2.2.2.2.2.2.2.2.2.2.2.2.2.2.2.2.2.2.2.2.2.1.length:Int)==0))))))))))) && (c.2.2.2.2.2.2.2.2.2.2.2.2.2.2.2.2.2.2.2.2.2.2.2.2.2.2.2.2.2.2.2.2.1 && (Bp (clT c) && (Gs (clR c) && (c.2.2.2.2.2.2.2.2.2.2.2.2.2.2.2.2.2.2.2.2.2.2.2.2.2.2.2.2.2.2.2.2.2.2.2.2.2.2.2.2.1==0)))))else
   bif c.2.2.2.2.1==3 then(((c.2.2.2.2.2.1.length:Int)==12) && (frZ (Cr c) && (Bd (Bm c) && ((c.2.2.2.2.2.2.2.2.2.2.2.2.2.2.2.2.2.1==0) && (Gs (clT c) && (Bp (clR c) && ((c.2.2.2.2.2.2.2.2.2.2.2.2.2.2.2.2.2.2.2.2.2.2.2.2.2.2.2.2.2.2.2.2.2.2.2.2.1==decide ((c.2.2.2.2.2.2.2.2.2.2.2.2.2.2.2.2.2.2.2.2.2.2.2.2.2.2.2.2.2.2.2.1.length:Int)>0)) && inR c.2.2.2.2.2.2.2.2.2.2.2.2.2.2.2.2.2.2.2.2.2.2.2.2.2.2.2.2.2.2.2.2.2.2.2.2.2.2.2.2.1 0 1000000)))))))else false)))
theorem A4t (c:Ab) (h:Al c≤4294967296):Aad c=some ((((c.2.2.2.2.2.1.length:Int)==12) && ((c.2.2.2.2.2.2.1==3) && (Bg (Cr c) && ((c.2.2.2.2.2.2.2.1==c.1) && (Dt c.2.2.2.2.2.2.2.2.1 c.2.2.2.2.2.1 && (Bd (Bm c) && ((c.2.2.2.2.2.2.2.2.2.2.2.2.2.2.2.2.2.1==0) && (Dt c.2.2.2.2.2.2.2.2.2.2.2.2.2.2.2.2.2.2.1 c.2.2.2.2.2.2.2.2.2.1 && ((c.2.2.2.2.2.2.2.2.2.2.2.2.2.2.2.2.2.2.2.1==0) && (!c.2.2.2.2.2.2.2.2.2.2.2.2.2.2.2.2.2.2.2.2.2.2.2.2.2.2.2.2.2.1 && ((c.2.2.2.2.2.2.2.2.2.2.2.2.2.2.2.2.2.2.2.2.2.2.2.2.2.2.2.2.2.2.2.1.length:Int)==0))))))))))),()):=by
 simp only[Al]at h
 unfold Aad Ze
 simp (disch:=first|omega|(dsimp only;omega)) only[Ag,Ai,Ad,Jj,Ic,Lm,M8,Aj,Nt,bne,Bool.cond_false_right,Bool.cond_true_left,Bool.cond_false_left,Bool.not_not]
theorem Ea (c:Ab) (h:Al c≤4294967296):Bw c=some (A0 c,()):=by
 have h':=h
 simp only[Al]at h
 unfold Bw Zf A0
 simp (disch:=first|omega|(dsimp only;omega)) only[Ag,Ai,Ad,Br,Aub,Ayx,Azc,Ayz,Jj,Avz,A4t,Lm,Aj,Nt,bne,Bool.cond_false_right,Bool.cond_true_left,Bool.cond_false_left,Bool.not_not]
 rfl
theorem Aik (c:Ab):Le c=some (A0 c,()):=by
 unfold Le X0
 simp only[Ag,Ai,Ad,Cb,Afh,Aqa,Azb,A1t,Td,Lo,Rb,Aao,Aj,Nt,bne,Bool.cond_false_right,Bool.cond_true_left,Bool.cond_false_left,Bool.not_not]
 unfold A0
 rw[Aby (clT c),Aby (clR c)]
 rw[A4s c.2.2.2.2.1 ((c.2.2.2.2.2.1.length:Int)==0) ((c.2.2.2.2.2.1.length:Int)==12) (frZ (Cr c)) (Ah8 (Bm c)) (Bd (Bm c)) (c.2.2.2.2.2.2.2.2.2.2.2.2.2.2.2.2.2.1==0) (c.2.2.2.2.2.2.1==3) (c.2.2.2.2.2.2.2.1==c.1) (Bg (Cr c)) (Dt c.2.2.2.2.2.2.2.2.1 c.2.2.2.2.2.1) (Dt c.2.2.2.2.2.2.2.2.2.2.2.2.2.2.2.2.2.2.1 c.2.2.2.2.2.2.2.2.2.1) c.2.2.2.2.2.2.2.2.2.2.2.2.2.2.2.2.2.2.2.2.2.2.2.2.2.2.2.2.2.2.2.2.1 (Bp (clT c)) c.2.2.2.2.2.2.2.2.2.2.2.2.2.2.2.2.2.2.2.2.2.2.2.2.2.2.2.2.2.2.2.2.2.2.2.2.1 (Bp (clR c)) (c.2.2.2.2.2.2.2.2.2.2.2.2.2.2.2.2.2.2.2.2.2.2.2.2.2.2.2.2.2.2.2.2.2.2.2.2.2.2.2.2.1==0) (inR c.2.2.2.2.2.2.2.2.2.2.2.2.2.2.2.2.2.2.2.2.2.2.2.2.2.2.2.2.2.2.2.2.2.2.2.2.2.2.2.2.1 0 1000000) c.2.2.2.2.2.2.2.2.2.2.2.2.2.2.2.2.2.2.2.2.2.2.2.2.2.2.2.2.2.1 (c.2.2.2.2.2.2.2.2.2.2.2.2.2.2.2.2.2.2.2.1==0) ((c.2.2.2.2.2.2.2.2.2.2.2.2.2.2.2.2.2.2.2.2.2.2.2.2.2.2.2.2.2.2.2.1.length:Int)==0) (decide ((c.2.2.2.2.2.2.2.2.2.2.2.2.2.2.2.2.2.2.2.2.2.2.2.2.2.2.2.2.2.2.2.1.length:Int)>0)) (fun e=>by simp at e;rw[e];rfl)]
theorem Ady (d:Aa) (h:As d≤4294967296):Gm d=some d:=by
 simp only[As]at h
 unfold Gm Tv
 simp (disch:=first|omega|(dsimp only;omega)) only[Ai,Ad,Cd,Aj]
theorem Aqg (d:Aa) (h:As d≤4294967296):Pf d=some d:=by
 simp only[As]at h
 unfold Pf Af2
 simp (disch:=first|omega|(dsimp only;omega)) only[Ao,Ad,List.length_nil,Nat.zero_add,List.nil_append,Am,A5]
theorem Gd (d:Ab) (h:Al d≤4294967296):Bv d=some d:=by
 simp only[Al]at h
 unfold Bv Qp
 simp (disch:=first|omega|(dsimp only;omega)|(simp only[Ar];omega)|(simp only[As];omega)) only[Ai,Ad,Cd,Ady,Me,Aj]
theorem Al4 (d:Ab) (h:Al d≤4294967296):R8 d=some d:=by
 simp only[Al]at h
 unfold R8 Acl
 simp (disch:=first|omega|(dsimp only;omega)|(simp only[Ar];omega)|(simp only[As];omega)) only[Ai,Ao,Ad,Aqg,Tb,Aj,List.length_nil,Nat.zero_add,List.nil_append,Am,A5]
def Am3 (c:Ab):Ab:=(c.1,c.2.1,c.2.2.1,c.2.2.2.1,(0:Int),[],(0:Int),(0:Int),[],[],(0:Int),[],[],(0:Int),(0:Int),[],[],(0:Int),[],(0:Int),[],(0:Int),(0:Int),[],(0:Int),[],(0:Int),(0:Int),[],false,(0:Int),[],false,(0:Int),(0:Int),(0:Int),false,(0:Int),(0:Int),(0:Int),(0:Int),())
theorem Al5 (c:Ab):Al (Am3 c)≤Al c:=by
 simp only[Al,Am3,List.length_nil];omega
theorem Azd (c:Ab) (h:Al c≤4294967296):Q0 c=some (Am3 c):=by
 simp only[Al]at h
 unfold Q0 Apr Am3
 simp (disch:=first|omega|(dsimp only;omega)) only[Ai,Ad,Cd,Aj]
theorem A8r (c:Ab) (h:c.2.2.2.2.2.1.length≤4294967296):Ahz c=some ((1:Int),c.1,c.2.2.2.2.2.1,[],(0:Int),[],[],(0:Int),(0:Int),[],[],()):=by
 unfold Ahz Ahi
 simp only[Ai,Ad]
 rw[Cd _ zq2,Aj]
theorem A6y (c:Ab) (h:c.2.2.2.2.2.1.length≤4294967296):Mw c=some ((1:Int),c.1,c.2.2.2.2.2.1,[],(0:Int),[],[],(0:Int),(0:Int),[],[],()):=by
 unfold Mw Ry
 simp only[Ao,Ad,List.length_nil,Nat.zero_add,List.nil_append]
 rw[Am h];rfl
theorem Adz:Lh=Cn:=by
 funext n
 unfold Lh Zi Cn Iw
 simp only[Ag,Ai,Ad,Br,Cb,Aj]
end
end Go.Proofs.YtmhhajdeafijmaaGreat

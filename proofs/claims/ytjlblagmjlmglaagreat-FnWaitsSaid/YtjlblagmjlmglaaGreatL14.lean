/-
  That the program and the reference answer alike, in plain terms, and that the laws answer true.
-/
import Derived.Test.YtjlblagmjlmglaaGreatL13
namespace Go.Proofs.YtjlblagmjlmglaaGreat
open Go.RowKit
set_option linter.unusedVariables false
set_option linter.unusedSimpArgs false
set_option maxRecDepth 100000
set_option maxHeartbeats 4000000
noncomputable section
def F2 (t:Bg):Bool:=and (t.1==false) (and (t.2.1==(0:Int)) (and (t.2.2.1==(0:Int)) (and (t.2.2.2.1==(0:Int)) true)))
def Cu (t:Bg):Bool:=bif !t.1 then F2 t else inR t.2.1 0 1000008 && (inR t.2.2.2.1 1 5 && ((t.2.2.1==1) || ((t.2.2.1==2) || ((t.2.2.1==4) || (t.2.2.1==8)))))
theorem Av7 (t:Bg):Kh t=some (Cu t,()):=by
 unfold Kh Acj Cu F2
 simp only[Ai,Aj,Ad,B6,Al,M8,Option.some.injEq,Prod.mk.injEq,and_true]
 cases t.1<;>cases (t.2.2.1==(1:Int))<;>cases (t.2.2.1==(2:Int))<;>cases (t.2.2.1==(4:Int))<;>cases (t.2.2.1==(8:Int))<;>cases inR t.2.1 0 1000008<;>cases inR t.2.2.2.1 1 5<;>rfl
theorem Li (t:Bg):Kf t=some (Cu t,()):=by
 unfold Kf Abw Cu F2
 simp only[Ai,Aj,Ad,Bv,Al,M8,Option.some.injEq,Prod.mk.injEq,and_true]
 cases t.1<;>cases (t.2.2.1==(1:Int))<;>cases (t.2.2.1==(2:Int))<;>cases (t.2.2.1==(4:Int))<;>cases (t.2.2.1==(8:Int))<;>cases inR t.2.1 0 1000008<;>cases inR t.2.2.2.1 1 5<;>rfl
theorem Aa6 (t:Bg):F2 t=(!t.1 && Cu t):=by
 unfold Cu F2
 cases t.1<;>simp
abbrev Ez (c:Ab):Aa:=(c.2.2.2.2.2.2.1,c.2.2.2.2.2.2.2.1,c.2.2.2.2.2.2.2.2.1,c.2.2.2.2.2.2.2.2.2.1,c.2.2.2.2.2.2.2.2.2.2.1,c.2.2.2.2.2.2.2.2.2.2.2.1,c.2.2.2.2.2.2.2.2.2.2.2.2.1,c.2.2.2.2.2.2.2.2.2.2.2.2.2.1,c.2.2.2.2.2.2.2.2.2.2.2.2.2.2.1,c.2.2.2.2.2.2.2.2.2.2.2.2.2.2.2.1,c.2.2.2.2.2.2.2.2.2.2.2.2.2.2.2.2.1,())
abbrev Cw (c:Ab):Af:=(c.2.2.2.2.2.2.2.2.2.2.2.2.2.2.2.2.2.1,c.2.2.2.2.2.2.2.2.2.2.2.2.2.2.2.2.2.2.1,c.2.2.2.2.2.2.2.2.2.2.2.2.2.2.2.2.2.2.2.1,c.2.2.2.2.2.2.2.2.2.2.2.2.2.2.2.2.2.2.2.2.1,c.2.2.2.2.2.2.2.2.2.2.2.2.2.2.2.2.2.2.2.2.2.1,c.2.2.2.2.2.2.2.2.2.2.2.2.2.2.2.2.2.2.2.2.2.2.1,c.2.2.2.2.2.2.2.2.2.2.2.2.2.2.2.2.2.2.2.2.2.2.2.1,c.2.2.2.2.2.2.2.2.2.2.2.2.2.2.2.2.2.2.2.2.2.2.2.2.1,c.2.2.2.2.2.2.2.2.2.2.2.2.2.2.2.2.2.2.2.2.2.2.2.2.2.1,c.2.2.2.2.2.2.2.2.2.2.2.2.2.2.2.2.2.2.2.2.2.2.2.2.2.2.1,c.2.2.2.2.2.2.2.2.2.2.2.2.2.2.2.2.2.2.2.2.2.2.2.2.2.2.2.1,c.2.2.2.2.2.2.2.2.2.2.2.2.2.2.2.2.2.2.2.2.2.2.2.2.2.2.2.2.1,c.2.2.2.2.2.2.2.2.2.2.2.2.2.2.2.2.2.2.2.2.2.2.2.2.2.2.2.2.2.1,c.2.2.2.2.2.2.2.2.2.2.2.2.2.2.2.2.2.2.2.2.2.2.2.2.2.2.2.2.2.2.1,c.2.2.2.2.2.2.2.2.2.2.2.2.2.2.2.2.2.2.2.2.2.2.2.2.2.2.2.2.2.2.2.1,())
abbrev clT (c:Ab):Bg:=(c.2.2.2.2.2.2.2.2.2.2.2.2.2.2.2.2.2.2.2.2.2.2.2.2.2.2.2.2.2.2.2.2.1,c.2.2.2.2.2.2.2.2.2.2.2.2.2.2.2.2.2.2.2.2.2.2.2.2.2.2.2.2.2.2.2.2.2.1,c.2.2.2.2.2.2.2.2.2.2.2.2.2.2.2.2.2.2.2.2.2.2.2.2.2.2.2.2.2.2.2.2.2.2.1,c.2.2.2.2.2.2.2.2.2.2.2.2.2.2.2.2.2.2.2.2.2.2.2.2.2.2.2.2.2.2.2.2.2.2.2.1,())
abbrev clR (c:Ab):Bg:=(c.2.2.2.2.2.2.2.2.2.2.2.2.2.2.2.2.2.2.2.2.2.2.2.2.2.2.2.2.2.2.2.2.2.2.2.2.1,c.2.2.2.2.2.2.2.2.2.2.2.2.2.2.2.2.2.2.2.2.2.2.2.2.2.2.2.2.2.2.2.2.2.2.2.2.2.1,c.2.2.2.2.2.2.2.2.2.2.2.2.2.2.2.2.2.2.2.2.2.2.2.2.2.2.2.2.2.2.2.2.2.2.2.2.2.2.1,c.2.2.2.2.2.2.2.2.2.2.2.2.2.2.2.2.2.2.2.2.2.2.2.2.2.2.2.2.2.2.2.2.2.2.2.2.2.2.2.1,())
abbrev Alx (c:Ab):Int:=c.2.2.2.2.2.2.2.2.2.2.2.2.2.2.2.2.2.2.2.2.2.2.2.2.2.2.2.2.2.2.2.2.2.2.2.2.2.2.2.2.1
def frZ (f:Aa):Bool:=(f.1==0) && ((f.2.1==0) && (((f.2.2.1.length:Int)==0) && (((f.2.2.2.1.length:Int)==0) && ((f.2.2.2.2.1==0) && (((f.2.2.2.2.2.1.length:Int)==0) && (((f.2.2.2.2.2.2.1.length:Int)==0) && ((f.2.2.2.2.2.2.2.1==0) && ((f.2.2.2.2.2.2.2.2.1==0) &&
 (((f.2.2.2.2.2.2.2.2.2.1.length:Int)==0) && ((f.2.2.2.2.2.2.2.2.2.2.1.length:Int)==0))))))))))
theorem Azi (f:Aa):Iw f=some (frZ f,()):=by
 unfold Iw Py frZ
 simp only[Ai,Aj,Ad,Mo]
theorem Azj (f:Aa):Ff f ((0:Int),(0:Int),([]:List (Int×Unit)),([]:List (Int×Unit)),(0:Int),([]:List (Int×Unit)),([]:List (Int×Unit)),(0:Int),(0:Int),([]:List (Int×Unit)),([]:List (Int×Unit)),())=some (frZ f,()):=by
 rw[Aoe]
 unfold frZ
 simp only[Aln]
 refine congrArg (fun b=>some (b,())) ?_
 apply H3
 simp only[Bool.and_eq_true]
 constructor<;>(rintro⟨h1,h2,h3,h4,h5,h6,h7,h8,h9,h10,h11⟩;simp only[*,and_self])
theorem A48 (st:Int) (cnz cn12 f0 c0 ch role0 fin3 finId finOk finCn sn Ton Tok Ron Rok l0 lin nx old nz np:Bool) (hl:l0=true→lin=true):
  (bif st==0 then(cnz && (f0 && (c0 && ((!Ton && Tok) && ((!Ron && Rok) && l0)))))else bif st==1 then(cn12 && (f0 && (c0 && (Ton && (Tok && ((!Ron && Rok) && l0))))))else
   bif st==2 then((cn12 && (fin3 && (finOk && (finId && (finCn && (ch && (role0 && (sn && (old && (!nx && nz)))))))))) && (Ton && (Tok && ((!Ron && Rok) && l0))))else
   bif st==3 then(cn12 && (f0 && (ch && (role0 && ((!Ton && Tok) && (Rok && ((Ron==np) && lin)))))))else false)=
  (Tok && (Rok && (lin && (bif st==0 then(cnz && (f0 && (c0 && (!Ton && (!Ron && l0)))))else(cn12 && (bif st==3 then(f0 && (ch && (role0 && (!Ton && (Ron==np)))))else
   (Ton && (!Ron && (l0 && (bif st==1 then(f0 && c0)else(st==2 && (finOk && (fin3 && (finId && (finCn && (ch && (role0 && (sn && (old && (!nx && nz)))))))))))))))))))):=by
 by_cases h0:st=0
 ·subst h0;cases Tok<;>cases Rok<;>cases l0<;>simp_all
 ·by_cases h1:st=1
  ·subst h1;cases Tok<;>cases Rok<;>cases l0<;>cases Ton<;>cases Ron<;>simp_all
  ·by_cases h2:st=2
   ·subst h2;cases Tok<;>cases Rok<;>cases l0<;>cases Ton<;>cases Ron<;>cases finOk<;>simp_all
   ·by_cases h3:st=3
    ·subst h3;cases Tok<;>cases Rok<;>cases lin<;>cases Ton<;>simp_all
    ·have e0:(st==0)=false:=by simpa using h0
     have e1:(st==1)=false:=by simpa using h1
     have e2:(st==2)=false:=by simpa using h2
     have e3:(st==3)=false:=by simpa using h3
     simp[e0,e1,e2,e3]

def Bk (c:Ab):Bool:=
 inR c.1 1 9 && (F9 (c.2.1,()) && (Fz (c.2.2.1,c.2.2.2.1,()) &&
  (bif c.2.2.2.2.1==0 then(((c.2.2.2.2.2.1.length:Int)==0) && (frZ (Ez c) && (Ww (Cw c) && (F2 (clT c) && (F2 (clR c) && (c.2.2.2.2.2.2.2.2.2.2.2.2.2.2.2.2.2.2.2.2.2.2.2.2.2.2.2.2.2.2.2.2.2.2.2.2.2.2.2.2.1==0))))))else
   bif c.2.2.2.2.1==1 then(((c.2.2.2.2.2.1.length:Int)==12) && (frZ (Ez c) && (Ww (Cw c) && (c.2.2.2.2.2.2.2.2.2.2.2.2.2.2.2.2.2.2.2.2.2.2.2.2.2.2.2.2.2.2.2.2.1 && (Cu (clT c) && (F2 (clR c) && (c.2.2.2.2.2.2.2.2.2.2.2.2.2.2.2.2.2.2.2.2.2.2.2.2.2.2.2.2.2.2.2.2.2.2.2.2.2.2.2.2.1==0)))))))else
   bif c.2.2.2.2.1==2 then((((c.2.2.2.2.2.1.length:Int)==12) && ((c.2.2.2.2.2.2.1==3) && (B9 (Ez c) && ((c.2.2.2.2.2.2.2.1==c.1) && (Dv c.2.2.2.2.2.2.2.2.1 c.2.2.2.2.2.1 && (Bw (Cw c) && ((c.2.2.2.2.2.2.2.2.2.2.2.2.2.2.2.2.2.1==0) && (Dv c.2.2.2.2.2.2.2.2.2.2.2.2.2.2.2.2.2.2.1 c.2.2.2.2.2.2.2.2.2.1 && ((c.2.2.2.2.2.2.2.2.2.2.2.2.2.2.2.2.2.2.2.1==0) && (!c.2.2.2.2.2.2.2.2.2.2.2.2.2.2.2.2.2.2.2.2.2.2.2.2.2.2.2.2.2.1 && ((c.2.2.2.2.2.2.2.2.2.2.2.2.2.2.2.2.2.2.2.2.2.2.2.2.2.2.2.2.2.2.2.1.length:Int)==0))))))))))) && (c.2.2.2.2.2.2.2.2.2.2.2.2.2.2.2.2.2.2.2.2.2.2.2.2.2.2.2.2.2.2.2.2.1 && (Cu (clT c) && (F2 (clR c) && (c.2.2.2.2.2.2.2.2.2.2.2.2.2.2.2.2.2.2.2.2.2.2.2.2.2.2.2.2.2.2.2.2.2.2.2.2.2.2.2.2.1==0)))))else
   bif c.2.2.2.2.1==3 then(((c.2.2.2.2.2.1.length:Int)==12) && (frZ (Ez c) && (Bw (Cw c) && ((c.2.2.2.2.2.2.2.2.2.2.2.2.2.2.2.2.2.1==0) && (F2 (clT c) && (Cu (clR c) && ((c.2.2.2.2.2.2.2.2.2.2.2.2.2.2.2.2.2.2.2.2.2.2.2.2.2.2.2.2.2.2.2.2.2.2.2.2.1==decide ((c.2.2.2.2.2.2.2.2.2.2.2.2.2.2.2.2.2.2.2.2.2.2.2.2.2.2.2.2.2.2.2.1.length:Int)>0)) && inR c.2.2.2.2.2.2.2.2.2.2.2.2.2.2.2.2.2.2.2.2.2.2.2.2.2.2.2.2.2.2.2.2.2.2.2.2.2.2.2.2.1 0 1000000)))))))else false)))
theorem A49 (c:Ab) (h:An c≤4294967296):Zn c=some ((((c.2.2.2.2.2.1.length:Int)==12) && ((c.2.2.2.2.2.2.1==3) && (B9 (Ez c) && ((c.2.2.2.2.2.2.2.1==c.1) && (Dv c.2.2.2.2.2.2.2.2.1 c.2.2.2.2.2.1 && (Bw (Cw c) && ((c.2.2.2.2.2.2.2.2.2.2.2.2.2.2.2.2.2.1==0) && (Dv c.2.2.2.2.2.2.2.2.2.2.2.2.2.2.2.2.2.2.1 c.2.2.2.2.2.2.2.2.2.1 && ((c.2.2.2.2.2.2.2.2.2.2.2.2.2.2.2.2.2.2.2.1==0) && (!c.2.2.2.2.2.2.2.2.2.2.2.2.2.2.2.2.2.2.2.2.2.2.2.2.2.2.2.2.2.1 && ((c.2.2.2.2.2.2.2.2.2.2.2.2.2.2.2.2.2.2.2.2.2.2.2.2.2.2.2.2.2.2.2.1.length:Int)==0))))))))))),()):=by
 simp only[An]at h
 unfold Zn Xs
 simp (disch:=first|omega|(dsimp only;omega)) only[Ai,Aj,Ad,H2,Nt,Z0,Ru,Al,M8,bne,Bool.cond_false_right,Bool.cond_true_left,Bool.cond_false_left,Bool.not_not]
theorem Ma (c:Ab) (h:An c≤4294967296):Iy c=some (Bk c,()):=by
 have h':=h
 simp only[An]at h
 unfold Iy Xt Bk
 simp (disch:=first|omega|(dsimp only;omega)) only[Ai,Aj,Ad,B6,Aua,A9d,Azj,Ay7,H2,Av7,A49,Z0,Al,M8,bne,Bool.cond_false_right,Bool.cond_true_left,Bool.cond_false_left,Bool.not_not]
 rfl
theorem Pf (c:Ab):K9 c=some (Bk c,()):=by
 unfold K9 Xd
 simp only[Ai,Aj,Ad,Bv,W4,Aho,Azi,A12,Li,Ns,Z1,Ahn,Al,M8,bne,Bool.cond_false_right,Bool.cond_true_left,Bool.cond_false_left,Bool.not_not]
 unfold Bk
 rw[Aa6 (clT c),Aa6 (clR c)]
 rw[A48 c.2.2.2.2.1 ((c.2.2.2.2.2.1.length:Int)==0) ((c.2.2.2.2.2.1.length:Int)==12) (frZ (Ez c)) (Ww (Cw c)) (Bw (Cw c)) (c.2.2.2.2.2.2.2.2.2.2.2.2.2.2.2.2.2.1==0) (c.2.2.2.2.2.2.1==3) (c.2.2.2.2.2.2.2.1==c.1) (B9 (Ez c)) (Dv c.2.2.2.2.2.2.2.2.1 c.2.2.2.2.2.1) (Dv c.2.2.2.2.2.2.2.2.2.2.2.2.2.2.2.2.2.2.1 c.2.2.2.2.2.2.2.2.2.1) c.2.2.2.2.2.2.2.2.2.2.2.2.2.2.2.2.2.2.2.2.2.2.2.2.2.2.2.2.2.2.2.2.1 (Cu (clT c)) c.2.2.2.2.2.2.2.2.2.2.2.2.2.2.2.2.2.2.2.2.2.2.2.2.2.2.2.2.2.2.2.2.2.2.2.2.1 (Cu (clR c)) (c.2.2.2.2.2.2.2.2.2.2.2.2.2.2.2.2.2.2.2.2.2.2.2.2.2.2.2.2.2.2.2.2.2.2.2.2.2.2.2.2.1==0) (inR c.2.2.2.2.2.2.2.2.2.2.2.2.2.2.2.2.2.2.2.2.2.2.2.2.2.2.2.2.2.2.2.2.2.2.2.2.2.2.2.2.1 0 1000000) c.2.2.2.2.2.2.2.2.2.2.2.2.2.2.2.2.2.2.2.2.2.2.2.2.2.2.2.2.2.1 (c.2.2.2.2.2.2.2.2.2.2.2.2.2.2.2.2.2.2.2.1==0) ((c.2.2.2.2.2.2.2.2.2.2.2.2.2.2.2.2.2.2.2.2.2.2.2.2.2.2.2.2.2.2.2.1.length:Int)==0) (decide ((c.2.2.2.2.2.2.2.2.2.2.2.2.2.2.2.2.2.2.2.2.2.2.2.2.2.2.2.2.2.2.2.1.length:Int)>0)) (fun e=>by simp at e;rw[e];rfl)]
theorem Aog (d:Aa) (h:Ar d≤4294967296):Ht d=some d:=by
 simp only[Ar]at h
 unfold Ht Ta
 simp (disch:=first|omega|(dsimp only;omega)) only[Aj,Ad,Cg,Al]
theorem Ap8 (d:Aa) (h:Ar d≤4294967296):Ou d=some d:=by
 simp only[Ar]at h
 unfold Ou Afh
 simp (disch:=first|omega|(dsimp only;omega)) only[Ap,Ad,List.length_nil,Nat.zero_add,List.nil_append,Ao,A8]
theorem Hh (d:Ab) (h:An d≤4294967296):B8 d=some d:=by
 simp only[An]at h
 unfold B8 Qa
 simp (disch:=first|omega|(dsimp only;omega)|(simp only[A0];omega)|(simp only[Ar];omega)) only[Aj,Ad,Cg,Aog,Ahz,Al]
theorem Sp (d:Ab) (h:An d≤4294967296):Rn d=some d:=by
 simp only[An]at h
 unfold Rn Abu
 simp (disch:=first|omega|(dsimp only;omega)|(simp only[A0];omega)|(simp only[Ar];omega)) only[Aj,Ap,Ad,Ap8,Aa5,Al,List.length_nil,Nat.zero_add,List.nil_append,Ao,A8]
def Bay (c:Ab):Ab:=(c.1,c.2.1,c.2.2.1,c.2.2.2.1,(0:Int),[],(0:Int),(0:Int),[],[],(0:Int),[],[],(0:Int),(0:Int),[],[],(0:Int),[],(0:Int),[],(0:Int),(0:Int),[],(0:Int),[],(0:Int),(0:Int),[],false,(0:Int),[],false,(0:Int),(0:Int),(0:Int),false,(0:Int),(0:Int),(0:Int),(0:Int),())
theorem Bce (c:Ab) (h:An c≤4294967296):Ahe c=some (Bay c):=by
 simp only[An]at h
 unfold Ahe Apl Bay
 simp (disch:=first|omega|(dsimp only;omega)) only[Aj,Ad,Cg,Al]
theorem Azk (c:Ab) (h:c.2.2.2.2.2.1.length≤4294967296):Wp c=some ((1:Int),c.1,c.2.2.2.2.2.1,[],(0:Int),[],[],(0:Int),(0:Int),[],[],()):=by
 unfold Wp Agp
 simp only[Aj,Ad]
 rw[Cg _ zq2,Al]
theorem Aly (c:Ab) (h:c.2.2.2.2.2.1.length≤4294967296):Mm c=some ((1:Int),c.1,c.2.2.2.2.2.1,[],(0:Int),[],[],(0:Int),(0:Int),[],[],()):=by
 unfold Mm Rc
 simp only[Ap,Ad,List.length_nil,Nat.zero_add,List.nil_append]
 rw[Ao h];rfl
theorem Aoh:Lc=Cj:=by
 funext n
 unfold Lc Xv Cj G8
 simp only[Ai,Aj,Ad,B6,Bv,Al]
theorem Axn (n:YI): ∃t,Cj n=some t:=by
 unfold Cj G8
 simp only[Ai,Aj,Ad,Bv,Al]
 cases inR n.1 0 1000000<;>exact⟨_,rfl⟩
theorem Ba9 (c:Ab) (n:YI) (b:YBs) (h:An c+b.1.length≤1073741824):
  ∃r fs ns k,Apw c n b=some (r,(fs,()),(ns,()),(k,()))∧Ge c n b=some (r,(fs,()),(ns,()),(k,()))∧An r≤An c+b.1.length∧fs.length+Dg Ar fs≤b.1.length+1∧ns.length+Dg De ns≤b.1.length+1:=by
 unfold Apw Api Ge Pz
 simp only[Ai,Aj,Ad,Ap,List.length_nil,Nat.zero_add,List.nil_append]
 rw[Hh c zq0,Sp c zq0,Ma c zq0,Pf c,B6,Bv,H2,Aoh]
 simp only[Al]
 cases Bk c with
 |false=>exact⟨c,[],[],1,rfl,rfl,by omega,by simp[Dg],by simp[Dg]⟩
 |true=>
  cases inR n.1 0 1000000 with
  |false=>exact⟨c,[],[],1,rfl,rfl,by omega,by simp[Dg],by simp[Dg]⟩
  |true=>
   simp only[Bool.not_true,Aq]
   by_cases hb:b.1.length=12
   ·have q1:((b.1.length:Int)==12)=true:=by simp[hb]
    have q2:((b.1.length:Int) != 12)=false:=by simp[hb]
    rw[q1,q2]
    simp only[Bool.not_true,Aq]
    cases (c.2.2.2.2.1 != (0:Int))with
    |true=>exact⟨c,[],[],6,rfl,rfl,by omega,by simp[Dg],by simp[Dg]⟩
    |false=>
     simp only[Aq]
     obtain⟨t,ht⟩:=Axn n
     rw[ht,Cg b zq0,Ao zq0]
     simp only[Al,A8]
     rw[Azk _ zq2,Aly _ zq2]
     simp only[Al]
     refine⟨_,_,_,0,rfl,rfl,?_,?_,?_⟩
     ·simp only[An];omega
     ·simp only[Dg,Ar,List.length_cons,List.length_nil];omega
     ·simp only[Dg,De,List.length_cons,List.length_nil];omega
   ·have q1:((b.1.length:Int)==12)=false:=by simp;omega
    have q2:((b.1.length:Int) != 12)=true:=by simp;omega
    rw[q1,q2]
    exact⟨c,[],[],1,rfl,rfl,by omega,by simp[Dg],by simp[Dg]⟩
end
end Go.Proofs.YtjlblagmjlmglaaGreat

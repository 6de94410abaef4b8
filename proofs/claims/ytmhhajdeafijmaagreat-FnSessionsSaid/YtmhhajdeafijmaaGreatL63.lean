/-
  That the program and the reference answer alike, in plain terms, and that the laws answer true.
-/
import Derived.Test.YtmhhajdeafijmaaGreatL62
namespace Go.Proofs.YtmhhajdeafijmaaGreat
open Go.RowKit
set_option linter.unusedVariables false
set_option linter.unusedSimpArgs false
set_option maxRecDepth 100000
set_option maxHeartbeats 16000000
noncomputable section
theorem A3o (s:Bd) (n:YI) (a:Bu) (f:Aq) (d:YBs) (h:Bw s≤8388608) (h2:Ar f≤8388608) (w1:wfB f.2.2.2.1) (w2:wfB (Ck s).2.1) (ho:Fq s=true) (hd:Lc s=false) (hdl:d.1.length=12)
  {r:Bd} {os:List Bl} {ns:List A8} {k:Bool} (e:Mm s n a f d=some (r,(os,()),(ns,()),(k,()))):(ns=[]∧r=s∧os=[]∧k=false)∨Aku s r n.1 a d.1 os ns k:=by
 have hch:=Amh s
 have hpa:=Xr s
 have hck:=D3 (Ck s)
 have hsl:s.2.2.1.length≤Bw s:=by simp only[Bw];omega
 have htl:=Oc 0 f
 obtain⟨q1,q2,q3,q4,q5,q6,q7,q8,q9⟩:=Vu ho hd
 obtain⟨ch,p,z,o1,_,O1,O2,O3,O4⟩:=Amj (Ck s) n f zq0 zq0 w1 w2
 obtain⟨ky,kb,y1,_,y3,y4⟩:=At6 (Ck s) (f.2.2.2.2.2.2.2.1,()) zq0
 have hchk:=D3 ch
 have none: ∀ {r':Bd} {os':List Bl} {ns':List A8} {k':Bool},some (s,(([]:List Bl),()),(([]:List A8),()),(false,()))=some (r',(os',()),(ns',()),(k',()))→(ns'=[]∧r'=s∧os'=[]∧k'=false):=fun h=>by
  simp only[Option.some.injEq,Prod.mk.injEq,and_true]at h
  exact⟨h.2.2.1.symm,h.1.symm,h.2.1.symm,h.2.2.2.symm⟩
 unfold Mm Qv at e
 simp only[Ae,Ai,Ac,Ak]at e
 rw[Aqh s zq0,Afu s zq0,Kq]at e
 have hd':s.2.2.2.2.2.2.2.2.2.2.2.2.2.2.2.2.2.2.2.2.2.2.2.1=false:=hd
 simp only[Ag,ho,Bool.not_true,An]at e
 rw[C7 hd']at e
 cases ha:Du a with
 |false=>rw[ha]at e;exact .inl (none e)
 |true=>
 rw[ha]at e
 simp only[Bool.not_true,An]at e
 rw[show J1 (Ck s) n f=some (ch,(p,()),(z,()))from o1,show Q8 (Ck s) (f.2.2.2.2.2.2.2.1,())=some ((ky,()),(kb,()))from y1,Nk _ _ zq0]at e
 simp only[Ag]at e
 by_cases hz:z=0
 case neg=>
  rw[Fh (by simpa using hz)]at e
  exact .inl (none e)
 case pos=>
 subst hz
 rw[C7 (by rfl),A5k _ _ _ zq0 zq0 zq0]at e
 simp only[Ag]at e
 obtain⟨P1,P2,hn,P4,P5,P6,P7,P8,P9,P10,_⟩:=O4 rfl
 obtain⟨b1,b2,b3,b4,b5⟩:=Af5 P4 P5
 have hX1:ch.1=1:=by rw[P7];exact q6
 have hX2:ch.2.1=(Ck s).2.1:=P8
 have tk:J2 (Fr ky s.2.2.1 (Cu 0 f))=true:=A7i y4 (.inr q3) zq0
 have hos0:Mu []:=fun _ h=>by cases h
 have hAt0:((A5 s).1=(A5 s).1∧(A5 s).2.1=(A5 s).2.1)∨((A5 s).1=a.1∧(A5 s).2.1=a.2.1):=.inl ⟨rfl,rfl⟩
 have hcd0:(A5 s).2.2.1=[]∨(A5 s).2.2.1.length>0:=by
  cases (A5 s).2.2.1 with
  |nil=>exact .inl rfl
  |cons _ _=>exact .inr zq3
 have run: ∀(X:Aj) (P:A9),Au P≤4294967296→Av X≤60000000→ ∃p' b y g zz,Cd P n a d=some (p',(b,()))∧Bq X ((5:Int),()) d=some (y,g,(zz,()))∧Gc y g=some (Fi y g):=fun X P h1 h2=>by
  obtain⟨p',b,of1,_⟩:=F8 P n a d h1
  obtain⟨y,g,zz,g1,_,e',GS1,GS2,GS3,_⟩:=En X 5 d.1 zq0
  have hyk:=D3 y
  exact⟨p',b,y,g,zz,of1,g1,G8 y g zq0 zq0⟩
 rcases Ee e with⟨_,e⟩|⟨_,e⟩
 ·
  rw[Cw _ zq2]at e
  simp only[Ag]at e
  have e:=Er e
  obtain⟨p',b,y,g,zz,of1,g1,m1⟩:=run ch (A5 s) zq0 zq0
  rw[show Cd (A5 s) n a d=some (p',(b,()))from of1,show Bq ch ((5:Int),()) d=some (y,g,(zz,()))from g1]at e
  simp only[Ag]at e
  rw[m1]at e
  simp only[Ag]at e
  have got:J2 ((6:Int),(0:Int),(0:Int),([]:List YB),s.2.2.1,f.2.2.2.2.2.2.2.1,f.2.2.2.2.2.2.2.2.1,p,([]:List YB),(0:Int),(0:Int),n.1,())=true:=by
   rw[Rm]
   simp only[List.length_nil]
   exact⟨by omega,by omega,by omega,b2,b3,hn,.inl trivial,.inr q3,by omega,.inl trivial,Avu⟩
  exact .inr (Ac9 ho hd P2 hX1 hX2 q8 hn ha hdl zq0 zq0 hos0 (Od (Eo tk) (Eo got)) zq3 hAt0 hcd0 of1 g1 e)
 rcases Ee e with⟨_,e⟩|⟨_,e⟩
 ·
  obtain⟨pa,ab,an1,_,_,_⟩:=Ajw (A5 s) n a (p,()) zq0
  obtain⟨A1,A2,A3⟩:=A3n zq0 an1
  rw[show Ko (A5 s) n a (p,())=some (pa,(ab,()))from an1]at e
  simp only[Ag]at e
  rcases Ee e with⟨c,e⟩|⟨_,e⟩
  ·obtain⟨B1,B2,B3,B4⟩:=A2 c
   rw[Cw _ zq2]at e
   simp only[Ag]at e
   have e:=Er e
   obtain⟨p',b,y,g,zz,of1,g1,m1⟩:=run ch pa zq0 zq0
   rw[show Cd pa n a d=some (p',(b,()))from of1,show Bq ch ((5:Int),()) d=some (y,g,(zz,()))from g1]at e
   simp only[Ag]at e
   rw[m1]at e
   simp only[Ag]at e
   have mv:J2 ((9:Int),(0:Int),(0:Int),([]:List YB),s.2.2.1,(0:Int),(0:Int),p,([]:List YB),a.1,a.2.1,n.1,())=true:=by
    rw[Rm]
    simp only[List.length_nil]
    exact⟨by omega,by omega,by omega,by omega,by omega,hn,.inl trivial,.inr q3,by omega,.inl trivial,ha⟩
   exact .inr (Ac9 ho hd P2 hX1 hX2 B1 hn ha hdl zq0 zq0 hos0 (Od (Eo tk) (Eo mv)) zq3 (.inr ⟨B2,B3⟩) (.inr B4) of1 g1 e)
  ·obtain⟨p',b,y,g,zz,of1,g1,m1⟩:=run ch (A5 s) zq0 zq0
   rw[show Cd (A5 s) n a d=some (p',(b,()))from of1,show Bq ch ((5:Int),()) d=some (y,g,(zz,()))from g1]at e
   simp only[Ag]at e
   rw[m1]at e
   simp only[Ag]at e
   exact .inr (Ac9 ho hd P2 hX1 hX2 q8 hn ha hdl zq0 zq0 hos0 (Eo tk) zq3 hAt0 hcd0 of1 g1 e)
 rcases Ee e with⟨_,e⟩|⟨_,e⟩
 ·
  obtain⟨⟨r1,⟨os1,⟨⟩⟩,ns1,⟨⟩⟩,k1,e⟩:=Ug e
  obtain⟨X,hr1,X1,X2,X3,X4,X5,X6⟩:=A5y (X0:=ch) (P:=A5 s) (n:=n.1) rfl ho hd P2 hX1 hX2 q8 zq0 k1
  subst hr1
  have e:=Er (Er e)
  obtain⟨p',b,y,g,zz,of1,g1,m1⟩:=run X (A5 s) zq0 zq0
  rw[show Cd (A5 (Gn s X (A5 s) n.1)) n a d=some (p',(b,()))from of1,show Bq (Ck (Gn s X (A5 s) n.1)) ((5:Int),()) d=some (y,g,(zz,()))from g1]at e
  simp only[Ag]at e
  rw[m1]at e
  simp only[Ag]at e
  exact .inr (Ac9 ho hd X1 X2 X3 q8 hn ha hdl zq0 zq0 (Aqo hos0 X5) (Od (Eo tk) X6) zq3 hAt0 hcd0 of1 g1 e)
 ·obtain⟨p',b,y,g,zz,of1,g1,m1⟩:=run ch (A5 s) zq0 zq0
  rw[show Cd (A5 s) n a d=some (p',(b,()))from of1,show Bq ch ((5:Int),()) d=some (y,g,(zz,()))from g1]at e
  simp only[Ag]at e
  rw[m1]at e
  simp only[Ag]at e
  exact .inr (Ac9 ho hd P2 hX1 hX2 q8 hn ha hdl zq0 zq0 hos0 (Eo tk) zq3 hAt0 hcd0 of1 g1 e)
end
end Go.Proofs.YtmhhajdeafijmaaGreat

/-
  That the program and the reference answer alike, in plain terms, and that the laws answer true.
-/
import Derived.Test.YtmhhajdeafijmaaGreatL62
namespace Go.Proofs.YtmhhajdeafijmaaGreat
open Go.RowKit
set_option linter.unusedVariables false
set_option linter.unusedSimpArgs false
set_option maxRecDepth 100000
set_option maxHeartbeats 16000000
noncomputable section
theorem A1i (s:Bp) (n:YI) (a:B7) (f:Au) (d:YBs) (h:Br s≤8388608) (h2:Aq f≤8388608) (w1:wfB f.2.2.2.1) (w2:wfB (Ci s).2.1) (ho:Fm s=true) (hd:Ky s=false) (hdl:d.1.length=12)
  {r:Bp} {os:List Cv} {ns:List B8} {k:Bool} (e:Ly s n a f d=some (r,(os,()),(ns,()),(k,()))):(ns=[]∧r=s∧os=[]∧k=false)∨Ajj s r n.1 a d.1 os ns k:=by
 have hch:=Akx s
 have hpa:=W4 s
 have hck:=Dv (Ci s)
 have hsl:s.2.2.1.length≤Br s:=by simp only[Br];omega
 have htl:=Nu 0 f
 obtain⟨q1,q2,q3,q4,q5,q6,q7,q8,q9⟩:=U6 ho hd
 obtain⟨ch,p,z,o1,_,O1,O2,O3,O4⟩:=Akz (Ci s) n f zq0 zq0 w1 w2
 obtain⟨ky,kb,y1,_,y3,y4⟩:=Ar7 (Ci s) (f.2.2.2.2.2.2.2.1,()) zq0
 have hchk:=Dv ch
 have none: ∀ {r':Bp} {os':List Cv} {ns':List B8} {k':Bool},some (s,(([]:List Cv),()),(([]:List B8),()),(false,()))=some (r',(os',()),(ns',()),(k',()))→(ns'=[]∧r'=s∧os'=[]∧k'=false):=fun h=>by
  simp only[Option.some.injEq,Prod.mk.injEq,and_true]at h
  exact⟨h.2.2.1.symm,h.1.symm,h.2.1.symm,h.2.2.2.symm⟩
 unfold Ly Qe at e
 simp only[Ae,Ai,Ac,Aj]at e
 rw[Aok s zq0,Aeu s zq0,Kf]at e
 have hd':s.2.2.2.2.2.2.2.2.2.2.2.2.2.2.2.2.2.2.2.2.2.2.2.1=false:=hd
 simp only[Ag,ho,Bool.not_true,Am]at e
 rw[C4 hd']at e
 cases ha:Dp a with
 |false=>rw[ha]at e;exact .inl (none e)
 |true=>
 rw[ha]at e
 simp only[Bool.not_true,Am]at e
 rw[show Jk (Ci s) n f=some (ch,(p,()),(z,()))from o1,show Qb (Ci s) (f.2.2.2.2.2.2.2.1,())=some ((ky,()),(kb,()))from y1,Mz _ _ zq0]at e
 simp only[Ag]at e
 by_cases hz:z=0
 case neg=>
  rw[Fg (by simpa using hz)]at e
  exact .inl (none e)
 case pos=>
 subst hz
 rw[C4 (by rfl),A3e _ _ _ zq0 zq0 zq0]at e
 simp only[Ag]at e
 obtain⟨P1,P2,hn,P4,P5,P6,P7,P8,P9,P10,_⟩:=O4 rfl
 obtain⟨b1,b2,b3,b4,b5⟩:=Ae5 P4 P5
 have hX1:ch.1=1:=by rw[P7];exact q6
 have hX2:ch.2.1=(Ci s).2.1:=P8
 have tk:Jt (Fo ky s.2.2.1 (Cr 0 f))=true:=A5c y4 (.inr q3) zq0
 have hos0:Mf []:=fun _ h=>by cases h
 have hAt0:((A5 s).1=(A5 s).1∧(A5 s).2.1=(A5 s).2.1)∨((A5 s).1=a.1∧(A5 s).2.1=a.2.1):=.inl ⟨rfl,rfl⟩
 have hcd0:(A5 s).2.2.1=[]∨(A5 s).2.2.1.length>0:=by
  cases (A5 s).2.2.1 with
  |nil=>exact .inl rfl
  |cons _ _=>exact .inr zq3
 have run: ∀(X:Al) (P:Bb),As P≤4294967296→Av X≤60000000→ ∃p' b y g zz,Cc P n a d=some (p',(b,()))∧Bm X ((5:Int),()) d=some (y,g,(zz,()))∧Ga y g=some (Fh y g):=fun X P h1 h2=>by
  obtain⟨p',b,of1,_⟩:=F5 P n a d h1
  obtain⟨y,g,zz,g1,_,e',GS1,GS2,GS3,_⟩:=Ek X 5 d.1 zq0
  have hyk:=Dv y
  exact⟨p',b,y,g,zz,of1,g1,G4 y g zq0 zq0⟩
 rcases Ea e with⟨_,e⟩|⟨_,e⟩
 ·
  rw[Cu _ zq2]at e
  simp only[Ag]at e
  have e:=En e
  obtain⟨p',b,y,g,zz,of1,g1,m1⟩:=run ch (A5 s) zq0 zq0
  rw[show Cc (A5 s) n a d=some (p',(b,()))from of1,show Bm ch ((5:Int),()) d=some (y,g,(zz,()))from g1]at e
  simp only[Ag]at e
  rw[m1]at e
  simp only[Ag]at e
  have got:Jt ((6:Int),(0:Int),(0:Int),([]:List YB),s.2.2.1,f.2.2.2.2.2.2.2.1,f.2.2.2.2.2.2.2.2.1,p,([]:List YB),(0:Int),(0:Int),n.1,())=true:=by
   rw[Q1]
   simp only[List.length_nil]
   exact⟨by omega,by omega,by omega,b2,b3,hn,.inl trivial,.inr q3,by omega,.inl trivial,Atv⟩
  exact .inr (Acb ho hd P2 hX1 hX2 q8 hn ha hdl zq0 zq0 hos0 (Nv (El tk) (El got)) zq3 hAt0 hcd0 of1 g1 e)
 rcases Ea e with⟨_,e⟩|⟨_,e⟩
 ·
  obtain⟨pa,ab,an1,_,_,_⟩:=Ail (A5 s) n a (p,()) zq0
  obtain⟨A1,A2,A3⟩:=A1h zq0 an1
  rw[show Kc (A5 s) n a (p,())=some (pa,(ab,()))from an1]at e
  simp only[Ag]at e
  rcases Ea e with⟨c,e⟩|⟨_,e⟩
  ·obtain⟨B1,B2,B3,B4⟩:=A2 c
   rw[Cu _ zq2]at e
   simp only[Ag]at e
   have e:=En e
   obtain⟨p',b,y,g,zz,of1,g1,m1⟩:=run ch pa zq0 zq0
   rw[show Cc pa n a d=some (p',(b,()))from of1,show Bm ch ((5:Int),()) d=some (y,g,(zz,()))from g1]at e
   simp only[Ag]at e
   rw[m1]at e
   simp only[Ag]at e
   have mv:Jt ((9:Int),(0:Int),(0:Int),([]:List YB),s.2.2.1,(0:Int),(0:Int),p,([]:List YB),a.1,a.2.1,n.1,())=true:=by
    rw[Q1]
    simp only[List.length_nil]
    exact⟨by omega,by omega,by omega,by omega,by omega,hn,.inl trivial,.inr q3,by omega,.inl trivial,ha⟩
   exact .inr (Acb ho hd P2 hX1 hX2 B1 hn ha hdl zq0 zq0 hos0 (Nv (El tk) (El mv)) zq3 (.inr ⟨B2,B3⟩) (.inr B4) of1 g1 e)
  ·obtain⟨p',b,y,g,zz,of1,g1,m1⟩:=run ch (A5 s) zq0 zq0
   rw[show Cc (A5 s) n a d=some (p',(b,()))from of1,show Bm ch ((5:Int),()) d=some (y,g,(zz,()))from g1]at e
   simp only[Ag]at e
   rw[m1]at e
   simp only[Ag]at e
   exact .inr (Acb ho hd P2 hX1 hX2 q8 hn ha hdl zq0 zq0 hos0 (El tk) zq3 hAt0 hcd0 of1 g1 e)
 rcases Ea e with⟨_,e⟩|⟨_,e⟩
 ·
  obtain⟨⟨r1,⟨os1,⟨⟩⟩,ns1,⟨⟩⟩,k1,e⟩:=Tr e
  obtain⟨X,hr1,X1,X2,X3,X4,X5,X6⟩:=A3s (X0:=ch) (P:=A5 s) (n:=n.1) rfl ho hd P2 hX1 hX2 q8 zq0 k1
  subst hr1
  have e:=En (En e)
  obtain⟨p',b,y,g,zz,of1,g1,m1⟩:=run X (A5 s) zq0 zq0
  rw[show Cc (A5 (Gk s X (A5 s) n.1)) n a d=some (p',(b,()))from of1,show Bm (Ci (Gk s X (A5 s) n.1)) ((5:Int),()) d=some (y,g,(zz,()))from g1]at e
  simp only[Ag]at e
  rw[m1]at e
  simp only[Ag]at e
  exact .inr (Acb ho hd X1 X2 X3 q8 hn ha hdl zq0 zq0 (Aor hos0 X5) (Nv (El tk) X6) zq3 hAt0 hcd0 of1 g1 e)
 ·obtain⟨p',b,y,g,zz,of1,g1,m1⟩:=run ch (A5 s) zq0 zq0
  rw[show Cc (A5 s) n a d=some (p',(b,()))from of1,show Bm ch ((5:Int),()) d=some (y,g,(zz,()))from g1]at e
  simp only[Ag]at e
  rw[m1]at e
  simp only[Ag]at e
  exact .inr (Acb ho hd P2 hX1 hX2 q8 hn ha hdl zq0 zq0 hos0 (El tk) zq3 hAt0 hcd0 of1 g1 e)
end
end Go.Proofs.YtmhhajdeafijmaaGreat

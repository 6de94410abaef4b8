/-
  That the program and the reference answer alike, in plain terms, and that the laws answer true.
-/
import Derived.Test.YtmhhajdeafijmaaGreatL37
namespace Go.Proofs.YtmhhajdeafijmaaGreat
open Go.RowKit
set_option linter.unusedVariables false
set_option linter.unusedSimpArgs false
set_option maxRecDepth 100000
set_option maxHeartbeats 8000000
noncomputable section
def Aj4 (s:A4) (X:Aj) (P:A7) (la:Int):A4:=(s.1,s.2.1,s.2.2.1,X.1,X.2.1,X.2.2.1,X.2.2.2.1,X.2.2.2.2.1,X.2.2.2.2.2.1,X.2.2.2.2.2.2.1,X.2.2.2.2.2.2.2.1,X.2.2.2.2.2.2.2.2.1,X.2.2.2.2.2.2.2.2.2.1,X.2.2.2.2.2.2.2.2.2.2.1,X.2.2.2.2.2.2.2.2.2.2.2.1,X.2.2.2.2.2.2.2.2.2.2.2.2.1,X.2.2.2.2.2.2.2.2.2.2.2.2.2.1,X.2.2.2.2.2.2.2.2.2.2.2.2.2.2.1,P.1,P.2.1,P.2.2.1,s.2.2.2.2.2.2.2.2.2.2.2.2.2.2.2.2.2.2.2.2.2.1,la,s.2.2.2.2.2.2.2.2.2.2.2.2.2.2.2.2.2.2.2.2.2.2.2.1,())
def SeH (s:A4) (m:Nat) (r:A4) (os:List Bj) (ns:List A2):Prop:=Bm r≤Bm s+900∧os.length+Cm Gq os≤4*(Bm s+m+900)∧ns.length+Cm Ev ns≤12*(Bm s+m+900)
theorem At8 (s:A4) (X:Aj) (P:A7) (la:Int):Bm (Aj4 s X P la)+Ax (Ew s)+A0 (B4 s)=Bm s+Ax X+A0 P:=by
 simp only[Bm,Aj4,Ax,Ew,A0,B4];omega
theorem A0n (s:A4) (n:YI) (a:Bw) (f:Au) (d:YBs) (h:Bm s≤8388608) (h2:Aq f≤8388608) (h3:d.1.length≤8388608) (w1:wfB f.2.2.2.1) (w2:wfB (Ew s).2.1):
  ∃r os ns k,Jf s n a f d=some (r,(os,()),(ns,()),(k,()))∧Wc s n a f d=some (r,(os,()),(ns,()),(k,()))∧SeH s (Aq f+d.1.length) r os ns:=by
 have none: ∃r os ns k,some (s,(([]:List Bj),()),(([]:List A2),()),(false,()))=some (r,(os,()),(ns,()),(k,()))∧some (s,(([]:List Bj),()),(([]:List A2),()),(false,()))=some (r,(os,()),(ns,()),(k,()))∧SeH s (Aq f+d.1.length) r os ns:=⟨s,[],[],false,rfl,rfl,by omega,by simp[Cm],by simp[Cm]⟩
 have hch:=A0h s
 have hpa:=Axo s
 have hck:=Fd (Ew s)
 have hsl:s.2.2.1.length≤Bm s:=by simp only[Bm];omega
 have htl:=Abf 0 f
 obtain⟨ch,p,z,o1,o2,O1,O2,O3,O4⟩:=A0k (Ew s) n f zq0 zq0 w1 w2
 obtain⟨k,kb,y1,y2,y3,y4⟩:=A5j (Ew s) (f.2.2.2.2.2.2.2.1,()) zq0
 have hchk:=Fd ch
 unfold Jf Pw Wc Wb
 simp only[Af,Ah,Ac,An,Abv,Abw,Rg,Abx,Aby,Abz,Mn]
 rw[Qr s zq0,At4 s zq0,Lu s zq0,Anz s zq0,Afn,W0]
 simp only[Ai]
 cases ho:Hq s with
 |false=>exact none
 |true=>
 simp only[Bool.not_true,Ap]
 by_cases hd0:s.2.2.2.2.2.2.2.2.2.2.2.2.2.2.2.2.2.2.2.2.2.2.2.1=true
 ·rw[F3 hd0,F3 hd0];exact none
 have hd:s.2.2.2.2.2.2.2.2.2.2.2.2.2.2.2.2.2.2.2.2.2.2.2.1=false:=by simpa using hd0
 rw[Dv hd,Dv hd]
 cases ha:Id a with
 |false=>exact none
 |true=>
 simp only[Bool.not_true,Ap]
 rw[show Ld _ n f=some (ch,(p,()),(z,()))from o1,show Hn _ n f=some (ch,(p,()),(z,()))from o2,show Uo _ (f.2.2.2.2.2.2.2.1,())=some ((k,()),(kb,()))from y1,show Us _ (f.2.2.2.2.2.2.2.1,())=some ((k,()),(kb,()))from y2,Qo _ _ zq0,Qp _ _ zq0]
 simp only[Ai]
 by_cases hz:z=0
 case neg=>
  rw[F3 (by simpa using hz),F3 (by simpa using hz)]
  exact none
 case pos=>
 subst hz
 rw[Dv (by rfl),Dv (by rfl),Baa _ _ _ zq0 zq0 zq0,Bab _ _ _ zq0 zq0 zq0]
 simp only[Ai]
 have d2:decide (s.2.2.1.length≤4294967296)=true:=Al zq0
 have d4:decide (p.length≤4294967296)=true:=Al zq0
 have tail: ∀(X:Aj) (P:A7) (os:List Bj) (ns:List A2) (p':A7) (b:Bool) (y:Aj) (g:Au) (zz:Int),Ax X≤Ax (Ew s)+400→A0 P≤A0 (B4 s)+50→Ax y≤Ax (Ew s)+400→A0 p'≤A0 (B4 s)+100→Aq g≤Bm s+d.1.length+432→
   os.length+Cm Gq os≤2*(Bm s+(Aq f+d.1.length)+900)→ns.length+Cm Ev ns≤8*(Bm s+(Aq f+d.1.length)+900)→
   ∃r os' ns' k,br (!b) (some (Aj4 s X P n.1,(os,()),(ns,()),(false,()))) (br (zz != (0:Int)) (some (Aj4 s X P n.1,(os,()),(ns,()),(false,()))) (some (Aj4 s y p' n.1,(os++[(a.1,a.2.1,g.1,g.2.1,g.2.2.1,g.2.2.2.1,g.2.2.2.2.1,g.2.2.2.2.2.1,g.2.2.2.2.2.2.1,g.2.2.2.2.2.2.2.1,g.2.2.2.2.2.2.2.2.1,g.2.2.2.2.2.2.2.2.2.1,g.2.2.2.2.2.2.2.2.2.2.1,())],()),(ns++[G4 y g],()),(true,()))))=some (r,(os',()),(ns',()),(k,()))∧
    br (!b) (some (Aj4 s X P n.1,(os,()),(ns,()),(false,()))) (br (zz != (0:Int)) (some (Aj4 s X P n.1,(os,()),(ns,()),(false,()))) (some (Aj4 s y p' n.1,(os++[(a.1,a.2.1,g.1,g.2.1,g.2.2.1,g.2.2.2.1,g.2.2.2.2.1,g.2.2.2.2.2.1,g.2.2.2.2.2.2.1,g.2.2.2.2.2.2.2.1,g.2.2.2.2.2.2.2.2.1,g.2.2.2.2.2.2.2.2.2.1,g.2.2.2.2.2.2.2.2.2.2.1,())],()),(ns++[G4 y g],()),(true,()))))=some (r,(os',()),(ns',()),(k,()))∧SeH s (Aq f+d.1.length) r os' ns':=by
  intro X P os ns p' b y g zz h1 h2 h3 h4 h5 h6 h7
  have e1:=At8 s X P n.1
  have e2:=At8 s y p' n.1
  have e3:=Abf y.1 g
  have e4:=Fd y
  cases b with
  |false=>exact⟨_,_,_,_,rfl,rfl,by omega,by omega,by omega⟩
  |true=>
   simp only[Bool.not_true,Ap]
   cases hzz:(zz != (0:Int))with
   |true=>exact⟨_,_,_,_,rfl,rfl,by omega,by omega,by omega⟩
   |false=>
    refine⟨_,_,_,_,rfl,rfl,by omega,?_,?_⟩
    ·simp only[Af3,Cm,Gq,List.length_append,List.length_nil,List.length_cons]
     simp only[Aq]at*
     omega
    ·simp only[Af3,Cm,List.length_append,List.length_nil,List.length_cons]
     have e5:Ev (G4 y g)=y.2.2.2.1.length+(Cw y.1 g).length:=by simp only[Ev,G4,J4,List.length_nil];omega
     omega
 simp only[List.length_nil,List.nil_append,List.length_cons,Nat.zero_add,Nat.reduceLeDiff,decide_true,A5]
 cases h4:(f.1==(4:Int))with
 |true=>
  simp (disch:=first|omega|(dsimp only;omega)) only[Az,Dc]
  obtain⟨p',b,of1,of2,OF1,OF2,OF3⟩:=I0 (B4 s) n a d zq0
  obtain⟨y,g,zz,g1,g2,e',GS1,GS2,GS3,_⟩:=E6 (ch) 5 d.1 zq0
  have hyk:=Fd y
  rw[show Dy _ n a d=some (p',(b,()))from of1,show Da _ n a d=some (p',(b,()))from of2,show Ch _ (5,()) d=some (y,g,(zz,()))from g1,show B9 _ (5,()) d=some (y,g,(zz,()))from g2]
  simp only[Ai]
  rw[Iy y g zq0 zq0,Hb y g zq0 zq0]
  simp only[Ai,List.length_nil,List.nil_append,List.append_nil,List.length_cons,List.length_append,Nat.zero_add,Nat.reduceAdd,Nat.reduceLeDiff,decide_true,A5,d2,d4]
  exact tail (ch) (B4 s) ([]) ([Gk k s.2.2.1 (Cw 0 f),((6:Int),(0:Int),(0:Int),([]:List YB),s.2.2.1,f.2.2.2.2.2.2.2.1,f.2.2.2.2.2.2.2.2.1,p,([]:List YB),(0:Int),(0:Int),n.1,())]) p' b y g zz zq0 zq0 zq0 zq0 zq0 (by simp only[Cm,Gq,List.length_nil,List.length_cons];simp only[Aq]at*;omega) (by simp only[Cm,Ev,Gk,G4,J4,List.length_nil,List.length_cons];omega)
 |false=>
 simp only[Ap]
 cases h6:(f.1==(6:Int))with
 |true=>
  simp only[Az]
  obtain⟨pa,ab,an1,an2,AN1,AN2,AN3⟩:=A5q (B4 s) n a (p,()) zq0
  rw[show Uq _ n a (p,())=some (pa,(ab,()))from an1,show Ut _ n a (p,())=some (pa,(ab,()))from an2]
  simp only[Ai]
  cases ab with
  |true=>
   simp (disch:=first|omega|(dsimp only;omega)) only[Az,Dc]
   obtain⟨p',b,of1,of2,OF1,OF2,OF3⟩:=I0 (pa) n a d zq0
   obtain⟨y,g,zz,g1,g2,e',GS1,GS2,GS3,_⟩:=E6 (ch) 5 d.1 zq0
   have hyk:=Fd y
   rw[show Dy _ n a d=some (p',(b,()))from of1,show Da _ n a d=some (p',(b,()))from of2,show Ch _ (5,()) d=some (y,g,(zz,()))from g1,show B9 _ (5,()) d=some (y,g,(zz,()))from g2]
   simp only[Ai]
   rw[Iy y g zq0 zq0,Hb y g zq0 zq0]
   simp only[Ai,List.length_nil,List.nil_append,List.append_nil,List.length_cons,List.length_append,Nat.zero_add,Nat.reduceAdd,Nat.reduceLeDiff,decide_true,A5,d2,d4]
   exact tail (ch) (pa) ([]) ([Gk k s.2.2.1 (Cw 0 f),((9:Int),(0:Int),(0:Int),([]:List YB),s.2.2.1,(0:Int),(0:Int),p,([]:List YB),a.1,a.2.1,n.1,())]) p' b y g zz zq0 zq0 zq0 zq0 zq0 (by simp only[Cm,Gq,List.length_nil,List.length_cons];simp only[Aq]at*;omega) (by simp only[Cm,Ev,Gk,G4,J4,List.length_nil,List.length_cons];omega)
  |false=>
   simp only[Ap]
   obtain⟨p',b,of1,of2,OF1,OF2,OF3⟩:=I0 (B4 s) n a d zq0
   obtain⟨y,g,zz,g1,g2,e',GS1,GS2,GS3,_⟩:=E6 (ch) 5 d.1 zq0
   have hyk:=Fd y
   rw[show Dy _ n a d=some (p',(b,()))from of1,show Da _ n a d=some (p',(b,()))from of2,show Ch _ (5,()) d=some (y,g,(zz,()))from g1,show B9 _ (5,()) d=some (y,g,(zz,()))from g2]
   simp only[Ai]
   rw[Iy y g zq0 zq0,Hb y g zq0 zq0]
   simp only[Ai,List.length_nil,List.nil_append,List.append_nil,List.length_cons,List.length_append,Nat.zero_add,Nat.reduceAdd,Nat.reduceLeDiff,decide_true,A5,d2,d4]
   exact tail (ch) (B4 s) ([]) ([Gk k s.2.2.1 (Cw 0 f)]) p' b y g zz zq0 zq0 zq0 zq0 zq0 (by simp only[Cm,Gq,List.length_nil,List.length_cons];simp only[Aq]at*;omega) (by simp only[Cm,Ev,Gk,G4,J4,List.length_nil,List.length_cons];omega)
 |false=>
 simp only[Ap]
 cases h7:(f.1==(7:Int))with
 |false=>
  simp only[Ap]
  obtain⟨p',b,of1,of2,OF1,OF2,OF3⟩:=I0 (B4 s) n a d zq0
  obtain⟨y,g,zz,g1,g2,e',GS1,GS2,GS3,_⟩:=E6 (ch) 5 d.1 zq0
  have hyk:=Fd y
  rw[show Dy _ n a d=some (p',(b,()))from of1,show Da _ n a d=some (p',(b,()))from of2,show Ch _ (5,()) d=some (y,g,(zz,()))from g1,show B9 _ (5,()) d=some (y,g,(zz,()))from g2]
  simp only[Ai]
  rw[Iy y g zq0 zq0,Hb y g zq0 zq0]
  simp only[Ai,List.length_nil,List.nil_append,List.append_nil,List.length_cons,List.length_append,Nat.zero_add,Nat.reduceAdd,Nat.reduceLeDiff,decide_true,A5,d2,d4]
  exact tail (ch) (B4 s) ([]) ([Gk k s.2.2.1 (Cw 0 f)]) p' b y g zz zq0 zq0 zq0 zq0 zq0 (by simp only[Cm,Gq,List.length_nil,List.length_cons];simp only[Aq]at*;omega) (by simp only[Cm,Ev,Gk,G4,J4,List.length_nil,List.length_cons];omega)
 |true=>
 simp only[Az]
 obtain⟨X,zr,r1,r2,R1,R2,R3⟩:=Axz ch (f.2.2.2.2.2.2.2.1,()) (p,()) zq0
 have hXk:=Fd X
 have d5:decide (X.2.2.2.1.length≤4294967296)=true:=Al zq0
 unfold Agw T5
 simp only[Af,Ah,Ac,An]
 rw[show Nv _ (f.2.2.2.2.2.2.2.1,()) (p,())=some (X,(zr,()))from r1,show Nw _ (f.2.2.2.2.2.2.2.1,()) (p,())=some (X,(zr,()))from r2]
 simp only[Ai,bne]
 cases hzr:(zr==(0:Int))with
 |false=>
  simp only[Bool.not_false,Az,Ap,Ai]
  obtain⟨p',b,of1,of2,OF1,OF2,OF3⟩:=I0 (B4 s) n a d zq0
  obtain⟨y,g,zz,g1,g2,e',GS1,GS2,GS3,_⟩:=E6 (ch) 5 d.1 zq0
  have hyk:=Fd y
  rw[show Dy _ n a d=some (p',(b,()))from of1,show Da _ n a d=some (p',(b,()))from of2,show Ch _ (5,()) d=some (y,g,(zz,()))from g1,show B9 _ (5,()) d=some (y,g,(zz,()))from g2]
  simp only[Ai]
  rw[Iy y g zq0 zq0,Hb y g zq0 zq0]
  simp only[Ai,List.length_nil,List.nil_append,List.append_nil,List.length_cons,List.length_append,Nat.zero_add,Nat.reduceAdd,Nat.reduceLeDiff,decide_true,A5,d2,d4]
  exact tail (ch) (B4 s) ([]) ([Gk k s.2.2.1 (Cw 0 f)]) p' b y g zz zq0 zq0 zq0 zq0 zq0 (by simp only[Cm,Gq,List.length_nil,List.length_cons];simp only[Aq]at*;omega) (by simp only[Cm,Ev,Gk,G4,J4,List.length_nil,List.length_cons];omega)
 |true=>
 simp only[Bool.not_true,Az,Ap]
 obtain⟨y',g',za,k1,k2,K1,K2,_⟩:=A92 X zq0
 have hyk':=Fd y'
 have htl2:=Abf y'.1 g'
 rw[k1,k2]
 simp only[Ai]
 rw[Iy y' g' zq0 zq0,Hb y' g' zq0 zq0]
 cases hN:(X.2.2.1==ch.2.2.1)with
 |false=>
  simp (disch:=first|omega|(dsimp only;omega)) only[Bool.not_false,Az,Ap,Dc,Ai]
  cases hza:(za==(0:Int))with
  |true=>
   simp only[Bool.not_true,Az,Ap,Ai,List.length_nil,List.nil_append,List.length_cons,List.length_append,Nat.zero_add,Nat.reduceAdd,Nat.reduceLeDiff,decide_true,A5,d2,d5]
   obtain⟨p',b,of1,of2,OF1,OF2,OF3⟩:=I0 (B4 s) n a d zq0
   obtain⟨y,g,zz,g1,g2,e',GS1,GS2,GS3,_⟩:=E6 (y') 5 d.1 zq0
   have hyk:=Fd y
   rw[show Dy _ n a d=some (p',(b,()))from of1,show Da _ n a d=some (p',(b,()))from of2,show Ch _ (5,()) d=some (y,g,(zz,()))from g1,show B9 _ (5,()) d=some (y,g,(zz,()))from g2]
   simp only[Ai]
   rw[Iy y g zq0 zq0,Hb y g zq0 zq0]
   simp only[Ai,List.length_nil,List.nil_append,List.append_nil,List.length_cons,List.length_append,Nat.zero_add,Nat.reduceAdd,Nat.reduceLeDiff,decide_true,A5,d2,d4]
   exact tail (y') (B4 s) ([(s.2.2.2.2.2.2.2.2.2.2.2.2.2.2.2.2.2.2.1,s.2.2.2.2.2.2.2.2.2.2.2.2.2.2.2.2.2.2.2.1,g'.1,g'.2.1,g'.2.2.1,g'.2.2.2.1,g'.2.2.2.2.1,g'.2.2.2.2.2.1,g'.2.2.2.2.2.2.1,g'.2.2.2.2.2.2.2.1,g'.2.2.2.2.2.2.2.2.1,g'.2.2.2.2.2.2.2.2.2.1,g'.2.2.2.2.2.2.2.2.2.2.1,())]) ([Gk k s.2.2.1 (Cw 0 f),((10:Int),(0:Int),(1:Int),([]:List YB),s.2.2.1,X.2.2.1,(0:Int),([]:List YB),X.2.2.2.1,(0:Int),(0:Int),(0:Int),()),G4 y' g']) p' b y g zz zq0 zq0 zq0 zq0 zq0 (by simp only[Cm,Gq,List.length_nil,List.length_cons];simp only[Aq]at*;omega) (by simp only[Cm,Ev,Gk,G4,J4,List.length_nil,List.length_cons];omega)
  |false=>
   simp only[Bool.not_false,Az,Ap,Ai,List.length_nil,List.nil_append,List.length_cons,List.length_append,Nat.zero_add,Nat.reduceAdd,Nat.reduceLeDiff,decide_true,A5,d2,d5]
   obtain⟨p',b,of1,of2,OF1,OF2,OF3⟩:=I0 (B4 s) n a d zq0
   obtain⟨y,g,zz,g1,g2,e',GS1,GS2,GS3,_⟩:=E6 (X) 5 d.1 zq0
   have hyk:=Fd y
   rw[show Dy _ n a d=some (p',(b,()))from of1,show Da _ n a d=some (p',(b,()))from of2,show Ch _ (5,()) d=some (y,g,(zz,()))from g1,show B9 _ (5,()) d=some (y,g,(zz,()))from g2]
   simp only[Ai]
   rw[Iy y g zq0 zq0,Hb y g zq0 zq0]
   simp only[Ai,List.length_nil,List.nil_append,List.append_nil,List.length_cons,List.length_append,Nat.zero_add,Nat.reduceAdd,Nat.reduceLeDiff,decide_true,A5,d2,d4]
   exact tail (X) (B4 s) ([]) ([Gk k s.2.2.1 (Cw 0 f),((10:Int),(0:Int),(1:Int),([]:List YB),s.2.2.1,X.2.2.1,(0:Int),([]:List YB),X.2.2.2.1,(0:Int),(0:Int),(0:Int),())]) p' b y g zz zq0 zq0 zq0 zq0 zq0 (by simp only[Cm,Gq,List.length_nil,List.length_cons];simp only[Aq]at*;omega) (by simp only[Cm,Ev,Gk,G4,J4,List.length_nil,List.length_cons];omega)
 |true=>
  simp only[Bool.not_true,Az,Ap,Ai]
  cases hza:(za==(0:Int))with
  |true=>
   simp only[Bool.not_true,Az,Ap,Ai,List.length_nil,List.nil_append,List.length_cons,List.length_append,Nat.zero_add,Nat.reduceAdd,Nat.reduceLeDiff,decide_true,A5,d2,d5]
   obtain⟨p',b,of1,of2,OF1,OF2,OF3⟩:=I0 (B4 s) n a d zq0
   obtain⟨y,g,zz,g1,g2,e',GS1,GS2,GS3,_⟩:=E6 (y') 5 d.1 zq0
   have hyk:=Fd y
   rw[show Dy _ n a d=some (p',(b,()))from of1,show Da _ n a d=some (p',(b,()))from of2,show Ch _ (5,()) d=some (y,g,(zz,()))from g1,show B9 _ (5,()) d=some (y,g,(zz,()))from g2]
   simp only[Ai]
   rw[Iy y g zq0 zq0,Hb y g zq0 zq0]
   simp only[Ai,List.length_nil,List.nil_append,List.append_nil,List.length_cons,List.length_append,Nat.zero_add,Nat.reduceAdd,Nat.reduceLeDiff,decide_true,A5,d2,d4]
   exact tail (y') (B4 s) ([(s.2.2.2.2.2.2.2.2.2.2.2.2.2.2.2.2.2.2.1,s.2.2.2.2.2.2.2.2.2.2.2.2.2.2.2.2.2.2.2.1,g'.1,g'.2.1,g'.2.2.1,g'.2.2.2.1,g'.2.2.2.2.1,g'.2.2.2.2.2.1,g'.2.2.2.2.2.2.1,g'.2.2.2.2.2.2.2.1,g'.2.2.2.2.2.2.2.2.1,g'.2.2.2.2.2.2.2.2.2.1,g'.2.2.2.2.2.2.2.2.2.2.1,())]) ([Gk k s.2.2.1 (Cw 0 f),G4 y' g']) p' b y g zz zq0 zq0 zq0 zq0 zq0 (by simp only[Cm,Gq,List.length_nil,List.length_cons];simp only[Aq]at*;omega) (by simp only[Cm,Ev,Gk,G4,J4,List.length_nil,List.length_cons];omega)
  |false=>
   simp only[Bool.not_false,Az,Ap,Ai,List.length_nil,List.nil_append,List.length_cons,List.length_append,Nat.zero_add,Nat.reduceAdd,Nat.reduceLeDiff,decide_true,A5,d2,d5]
   obtain⟨p',b,of1,of2,OF1,OF2,OF3⟩:=I0 (B4 s) n a d zq0
   obtain⟨y,g,zz,g1,g2,e',GS1,GS2,GS3,_⟩:=E6 (X) 5 d.1 zq0
   have hyk:=Fd y
   rw[show Dy _ n a d=some (p',(b,()))from of1,show Da _ n a d=some (p',(b,()))from of2,show Ch _ (5,()) d=some (y,g,(zz,()))from g1,show B9 _ (5,()) d=some (y,g,(zz,()))from g2]
   simp only[Ai]
   rw[Iy y g zq0 zq0,Hb y g zq0 zq0]
   simp only[Ai,List.length_nil,List.nil_append,List.append_nil,List.length_cons,List.length_append,Nat.zero_add,Nat.reduceAdd,Nat.reduceLeDiff,decide_true,A5,d2,d4]
   exact tail (X) (B4 s) ([]) ([Gk k s.2.2.1 (Cw 0 f)]) p' b y g zz zq0 zq0 zq0 zq0 zq0 (by simp only[Cm,Gq,List.length_nil,List.length_cons];simp only[Aq]at*;omega) (by simp only[Cm,Ev,Gk,G4,J4,List.length_nil,List.length_cons];omega)
end
end Go.Proofs.YtmhhajdeafijmaaGreat

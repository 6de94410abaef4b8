/-
  That the program and the reference answer alike, in plain terms, and that the laws answer true.
-/
import Derived.Test.YtmhhajdeafijmaaGreatL37
namespace Go.Proofs.YtmhhajdeafijmaaGreat
open Go.RowKit
set_option linter.unusedVariables false
set_option linter.unusedSimpArgs false
set_option maxRecDepth 100000
set_option maxHeartbeats 8000000
noncomputable section
def Gn (s:Bd) (X:Aj) (P:A9) (la:Int):Bd:=(s.1,s.2.1,s.2.2.1,X.1,X.2.1,X.2.2.1,X.2.2.2.1,X.2.2.2.2.1,X.2.2.2.2.2.1,X.2.2.2.2.2.2.1,X.2.2.2.2.2.2.2.1,X.2.2.2.2.2.2.2.2.1,X.2.2.2.2.2.2.2.2.2.1,X.2.2.2.2.2.2.2.2.2.2.1,X.2.2.2.2.2.2.2.2.2.2.2.1,X.2.2.2.2.2.2.2.2.2.2.2.2.1,X.2.2.2.2.2.2.2.2.2.2.2.2.2.1,X.2.2.2.2.2.2.2.2.2.2.2.2.2.2.1,P.1,P.2.1,P.2.2.1,s.2.2.2.2.2.2.2.2.2.2.2.2.2.2.2.2.2.2.2.2.2.1,la,s.2.2.2.2.2.2.2.2.2.2.2.2.2.2.2.2.2.2.2.2.2.2.2.1,())
def SeH (s:Bd) (m:Nat) (r:Bd) (os:List Bl) (ns:List A8):Prop:=Bw r≤Bw s+900∧os.length+Dg G5 os≤4*(Bw s+m+900)∧ns.length+Dg Fd ns≤12*(Bw s+m+900)
theorem At8 (s:Bd) (X:Aj) (P:A9) (la:Int):Bw (Gn s X P la)+Av (Ck s)+Au (A5 s)=Bw s+Av X+Au P:=by
 simp only[Bw,Gn,Av,Ck,Au,A5];omega
theorem A0g (s:Bd) (n:YI) (a:Bu) (f:Aq) (d:YBs) (h:Bw s≤8388608) (h2:Ar f≤8388608) (h3:d.1.length≤8388608) (w1:wfB f.2.2.2.1) (w2:wfB (Ck s).2.1):
  ∃r os ns k,Mm s n a f d=some (r,(os,()),(ns,()),(k,()))∧Ajh s n a f d=some (r,(os,()),(ns,()),(k,()))∧SeH s (Ar f+d.1.length) r os ns:=by
 have none: ∃r os ns k,some (s,(([]:List Bl),()),(([]:List A8),()),(false,()))=some (r,(os,()),(ns,()),(k,()))∧some (s,(([]:List Bl),()),(([]:List A8),()),(false,()))=some (r,(os,()),(ns,()),(k,()))∧SeH s (Ar f+d.1.length) r os ns:=⟨s,[],[],false,rfl,rfl,by omega,by simp[Dg],by simp[Dg]⟩
 have hch:=Amh s
 have hpa:=Xr s
 have hck:=D3 (Ck s)
 have hsl:s.2.2.1.length≤Bw s:=by simp only[Bw];omega
 have htl:=Oc 0 f
 obtain⟨ch,p,z,o1,o2,O1,O2,O3,O4⟩:=Amj (Ck s) n f zq0 zq0 w1 w2
 obtain⟨k,kb,y1,y2,y3,y4⟩:=At6 (Ck s) (f.2.2.2.2.2.2.2.1,()) zq0
 have hchk:=D3 ch
 unfold Mm Qv Ajh Ajg
 simp only[Ae,Ai,Ac,Ak,Acw,Acx,So,Acy,Acz,Ac0,Ni]
 rw[Aqh s zq0,A49 s zq0,Afu s zq0,A64 s zq0,Kq,Sp]
 simp only[Ag]
 cases ho:Fq s with
 |false=>exact none
 |true=>
 simp only[Bool.not_true,An]
 by_cases hd0:s.2.2.2.2.2.2.2.2.2.2.2.2.2.2.2.2.2.2.2.2.2.2.2.1=true
 ·rw[Fh hd0,Fh hd0];exact none
 have hd:s.2.2.2.2.2.2.2.2.2.2.2.2.2.2.2.2.2.2.2.2.2.2.2.1=false:=by simpa using hd0
 rw[C7 hd,C7 hd]
 cases ha:Du a with
 |false=>exact none
 |true=>
 simp only[Bool.not_true,An]
 rw[show J1 _ n f=some (ch,(p,()),(z,()))from o1,show H5 _ n f=some (ch,(p,()),(z,()))from o2,show Q8 _ (f.2.2.2.2.2.2.2.1,())=some ((k,()),(kb,()))from y1,show Vq _ (f.2.2.2.2.2.2.2.1,())=some ((k,()),(kb,()))from y2,Nk _ _ zq0,Rk _ _ zq0]
 simp only[Ag]
 by_cases hz:z=0
 case neg=>
  rw[Fh (by simpa using hz),Fh (by simpa using hz)]
  exact none
 case pos=>
 subst hz
 rw[C7 (by rfl),C7 (by rfl),A5k _ _ _ zq0 zq0 zq0,Baa _ _ _ zq0 zq0 zq0]
 simp only[Ag]
 have d2:decide (s.2.2.1.length≤4294967296)=true:=Am zq0
 have d4:decide (p.length≤4294967296)=true:=Am zq0
 have tail: ∀(X:Aj) (P:A9) (os:List Bl) (ns:List A8) (p':A9) (b:Bool) (y:Aj) (g:Aq) (zz:Int),Av X≤Av (Ck s)+400→Au P≤Au (A5 s)+50→Av y≤Av (Ck s)+400→Au p'≤Au (A5 s)+100→Ar g≤Bw s+d.1.length+432→
   os.length+Dg G5 os≤2*(Bw s+(Ar f+d.1.length)+900)→ns.length+Dg Fd ns≤8*(Bw s+(Ar f+d.1.length)+900)→
   ∃r os' ns' k,br (!b) (some (Gn s X P n.1,(os,()),(ns,()),(false,()))) (br (zz != (0:Int)) (some (Gn s X P n.1,(os,()),(ns,()),(false,()))) (some (Gn s y p' n.1,(os++[(a.1,a.2.1,g.1,g.2.1,g.2.2.1,g.2.2.2.1,g.2.2.2.2.1,g.2.2.2.2.2.1,g.2.2.2.2.2.2.1,g.2.2.2.2.2.2.2.1,g.2.2.2.2.2.2.2.2.1,g.2.2.2.2.2.2.2.2.2.1,g.2.2.2.2.2.2.2.2.2.2.1,())],()),(ns++[Fi y g],()),(true,()))))=some (r,(os',()),(ns',()),(k,()))∧
    br (!b) (some (Gn s X P n.1,(os,()),(ns,()),(false,()))) (br (zz != (0:Int)) (some (Gn s X P n.1,(os,()),(ns,()),(false,()))) (some (Gn s y p' n.1,(os++[(a.1,a.2.1,g.1,g.2.1,g.2.2.1,g.2.2.2.1,g.2.2.2.2.1,g.2.2.2.2.2.1,g.2.2.2.2.2.2.1,g.2.2.2.2.2.2.2.1,g.2.2.2.2.2.2.2.2.1,g.2.2.2.2.2.2.2.2.2.1,g.2.2.2.2.2.2.2.2.2.2.1,())],()),(ns++[Fi y g],()),(true,()))))=some (r,(os',()),(ns',()),(k,()))∧SeH s (Ar f+d.1.length) r os' ns':=by
  intro X P os ns p' b y g zz h1 h2 h3 h4 h5 h6 h7
  have e1:=At8 s X P n.1
  have e2:=At8 s y p' n.1
  have e3:=Oc y.1 g
  have e4:=D3 y
  cases b with
  |false=>exact⟨_,_,_,_,rfl,rfl,by omega,by omega,by omega⟩
  |true=>
   simp only[Bool.not_true,An]
   cases hzz:(zz != (0:Int))with
   |true=>exact⟨_,_,_,_,rfl,rfl,by omega,by omega,by omega⟩
   |false=>
    refine⟨_,_,_,_,rfl,rfl,by omega,?_,?_⟩
    ·simp only[Af8,Dg,G5,List.length_append,List.length_nil,List.length_cons]
     simp only[Ar]at*
     omega
    ·simp only[Af8,Dg,List.length_append,List.length_nil,List.length_cons]
     have e5:Fd (Fi y g)=y.2.2.2.1.length+(Cu y.1 g).length:=by simp only[Fd,Fi,I2,List.length_nil];omega
     omega
 simp only[List.length_nil,List.nil_append,List.length_cons,Nat.zero_add,Nat.reduceLeDiff,decide_true,Ba]
 cases h4:(f.1==(4:Int))with
 |true=>
  simp (disch:=first|omega|(dsimp only;omega)) only[A0,Cw]
  obtain⟨p',b,of1,of2,OF1,OF2,OF3⟩:=F8 (A5 s) n a d zq0
  obtain⟨y,g,zz,g1,g2,e',GS1,GS2,GS3,_⟩:=En (ch) 5 d.1 zq0
  have hyk:=D3 y
  rw[show Cd _ n a d=some (p',(b,()))from of1,show Df _ n a d=some (p',(b,()))from of2,show Bq _ (5,()) d=some (y,g,(zz,()))from g1,show Ci _ (5,()) d=some (y,g,(zz,()))from g2]
  simp only[Ag]
  rw[G8 y g zq0 zq0,Hq y g zq0 zq0]
  simp only[Ag,List.length_nil,List.nil_append,List.append_nil,List.length_cons,List.length_append,Nat.zero_add,Nat.reduceAdd,Nat.reduceLeDiff,decide_true,Ba,d2,d4]
  exact tail (ch) (A5 s) ([]) ([Fr k s.2.2.1 (Cu 0 f),((6:Int),(0:Int),(0:Int),([]:List YB),s.2.2.1,f.2.2.2.2.2.2.2.1,f.2.2.2.2.2.2.2.2.1,p,([]:List YB),(0:Int),(0:Int),n.1,())]) p' b y g zz zq0 zq0 zq0 zq0 zq0 (by simp only[Dg,G5,List.length_nil,List.length_cons];simp only[Ar]at*;omega) (by simp only[Dg,Fd,Fr,Fi,I2,List.length_nil,List.length_cons];omega)
 |false=>
 simp only[An]
 cases h6:(f.1==(6:Int))with
 |true=>
  simp only[A0]
  obtain⟨pa,ab,an1,an2,AN1,AN2,AN3⟩:=Ajw (A5 s) n a (p,()) zq0
  rw[show Ko _ n a (p,())=some (pa,(ab,()))from an1,show Vr _ n a (p,())=some (pa,(ab,()))from an2]
  simp only[Ag]
  cases ab with
  |true=>
   simp (disch:=first|omega|(dsimp only;omega)) only[A0,Cw]
   obtain⟨p',b,of1,of2,OF1,OF2,OF3⟩:=F8 (pa) n a d zq0
   obtain⟨y,g,zz,g1,g2,e',GS1,GS2,GS3,_⟩:=En (ch) 5 d.1 zq0
   have hyk:=D3 y
   rw[show Cd _ n a d=some (p',(b,()))from of1,show Df _ n a d=some (p',(b,()))from of2,show Bq _ (5,()) d=some (y,g,(zz,()))from g1,show Ci _ (5,()) d=some (y,g,(zz,()))from g2]
   simp only[Ag]
   rw[G8 y g zq0 zq0,Hq y g zq0 zq0]
   simp only[Ag,List.length_nil,List.nil_append,List.append_nil,List.length_cons,List.length_append,Nat.zero_add,Nat.reduceAdd,Nat.reduceLeDiff,decide_true,Ba,d2,d4]
   exact tail (ch) (pa) ([]) ([Fr k s.2.2.1 (Cu 0 f),((9:Int),(0:Int),(0:Int),([]:List YB),s.2.2.1,(0:Int),(0:Int),p,([]:List YB),a.1,a.2.1,n.1,())]) p' b y g zz zq0 zq0 zq0 zq0 zq0 (by simp only[Dg,G5,List.length_nil,List.length_cons];simp only[Ar]at*;omega) (by simp only[Dg,Fd,Fr,Fi,I2,List.length_nil,List.length_cons];omega)
  |false=>
   simp only[An]
   obtain⟨p',b,of1,of2,OF1,OF2,OF3⟩:=F8 (A5 s) n a d zq0
   obtain⟨y,g,zz,g1,g2,e',GS1,GS2,GS3,_⟩:=En (ch) 5 d.1 zq0
   have hyk:=D3 y
   rw[show Cd _ n a d=some (p',(b,()))from of1,show Df _ n a d=some (p',(b,()))from of2,show Bq _ (5,()) d=some (y,g,(zz,()))from g1,show Ci _ (5,()) d=some (y,g,(zz,()))from g2]
   simp only[Ag]
   rw[G8 y g zq0 zq0,Hq y g zq0 zq0]
   simp only[Ag,List.length_nil,List.nil_append,List.append_nil,List.length_cons,List.length_append,Nat.zero_add,Nat.reduceAdd,Nat.reduceLeDiff,decide_true,Ba,d2,d4]
   exact tail (ch) (A5 s) ([]) ([Fr k s.2.2.1 (Cu 0 f)]) p' b y g zz zq0 zq0 zq0 zq0 zq0 (by simp only[Dg,G5,List.length_nil,List.length_cons];simp only[Ar]at*;omega) (by simp only[Dg,Fd,Fr,Fi,I2,List.length_nil,List.length_cons];omega)
 |false=>
 simp only[An]
 cases h7:(f.1==(7:Int))with
 |false=>
  simp only[An]
  obtain⟨p',b,of1,of2,OF1,OF2,OF3⟩:=F8 (A5 s) n a d zq0
  obtain⟨y,g,zz,g1,g2,e',GS1,GS2,GS3,_⟩:=En (ch) 5 d.1 zq0
  have hyk:=D3 y
  rw[show Cd _ n a d=some (p',(b,()))from of1,show Df _ n a d=some (p',(b,()))from of2,show Bq _ (5,()) d=some (y,g,(zz,()))from g1,show Ci _ (5,()) d=some (y,g,(zz,()))from g2]
  simp only[Ag]
  rw[G8 y g zq0 zq0,Hq y g zq0 zq0]
  simp only[Ag,List.length_nil,List.nil_append,List.append_nil,List.length_cons,List.length_append,Nat.zero_add,Nat.reduceAdd,Nat.reduceLeDiff,decide_true,Ba,d2,d4]
  exact tail (ch) (A5 s) ([]) ([Fr k s.2.2.1 (Cu 0 f)]) p' b y g zz zq0 zq0 zq0 zq0 zq0 (by simp only[Dg,G5,List.length_nil,List.length_cons];simp only[Ar]at*;omega) (by simp only[Dg,Fd,Fr,Fi,I2,List.length_nil,List.length_cons];omega)
 |true=>
 simp only[A0]
 obtain⟨X,zr,r1,r2,R1,R2,R3⟩:=Ajx ch (f.2.2.2.2.2.2.2.1,()) (p,()) zq0
 have hXk:=D3 X
 have d5:decide (X.2.2.2.1.length≤4294967296)=true:=Am zq0
 unfold Oq On
 simp only[Ae,Ai,Ac,Ak]
 rw[show Lb _ (f.2.2.2.2.2.2.2.1,()) (p,())=some (X,(zr,()))from r1,show Ou _ (f.2.2.2.2.2.2.2.1,()) (p,())=some (X,(zr,()))from r2]
 simp only[Ag,bne]
 cases hzr:(zr==(0:Int))with
 |false=>
  simp only[Bool.not_false,A0,An,Ag]
  obtain⟨p',b,of1,of2,OF1,OF2,OF3⟩:=F8 (A5 s) n a d zq0
  obtain⟨y,g,zz,g1,g2,e',GS1,GS2,GS3,_⟩:=En (ch) 5 d.1 zq0
  have hyk:=D3 y
  rw[show Cd _ n a d=some (p',(b,()))from of1,show Df _ n a d=some (p',(b,()))from of2,show Bq _ (5,()) d=some (y,g,(zz,()))from g1,show Ci _ (5,()) d=some (y,g,(zz,()))from g2]
  simp only[Ag]
  rw[G8 y g zq0 zq0,Hq y g zq0 zq0]
  simp only[Ag,List.length_nil,List.nil_append,List.append_nil,List.length_cons,List.length_append,Nat.zero_add,Nat.reduceAdd,Nat.reduceLeDiff,decide_true,Ba,d2,d4]
  exact tail (ch) (A5 s) ([]) ([Fr k s.2.2.1 (Cu 0 f)]) p' b y g zz zq0 zq0 zq0 zq0 zq0 (by simp only[Dg,G5,List.length_nil,List.length_cons];simp only[Ar]at*;omega) (by simp only[Dg,Fd,Fr,Fi,I2,List.length_nil,List.length_cons];omega)
 |true=>
 simp only[Bool.not_true,A0,An]
 obtain⟨y',g',za,k1,k2,K1,K2,_⟩:=A5f X zq0
 have hyk':=D3 y'
 have htl2:=Oc y'.1 g'
 rw[k1,k2]
 simp only[Ag]
 rw[G8 y' g' zq0 zq0,Hq y' g' zq0 zq0]
 cases hN:(X.2.2.1==ch.2.2.1)with
 |false=>
  simp (disch:=first|omega|(dsimp only;omega)) only[Bool.not_false,A0,An,Cw,Ag]
  cases hza:(za==(0:Int))with
  |true=>
   simp only[Bool.not_true,A0,An,Ag,List.length_nil,List.nil_append,List.length_cons,List.length_append,Nat.zero_add,Nat.reduceAdd,Nat.reduceLeDiff,decide_true,Ba,d2,d5]
   obtain⟨p',b,of1,of2,OF1,OF2,OF3⟩:=F8 (A5 s) n a d zq0
   obtain⟨y,g,zz,g1,g2,e',GS1,GS2,GS3,_⟩:=En (y') 5 d.1 zq0
   have hyk:=D3 y
   rw[show Cd _ n a d=some (p',(b,()))from of1,show Df _ n a d=some (p',(b,()))from of2,show Bq _ (5,()) d=some (y,g,(zz,()))from g1,show Ci _ (5,()) d=some (y,g,(zz,()))from g2]
   simp only[Ag]
   rw[G8 y g zq0 zq0,Hq y g zq0 zq0]
   simp only[Ag,List.length_nil,List.nil_append,List.append_nil,List.length_cons,List.length_append,Nat.zero_add,Nat.reduceAdd,Nat.reduceLeDiff,decide_true,Ba,d2,d4]
   exact tail (y') (A5 s) ([(s.2.2.2.2.2.2.2.2.2.2.2.2.2.2.2.2.2.2.1,s.2.2.2.2.2.2.2.2.2.2.2.2.2.2.2.2.2.2.2.1,g'.1,g'.2.1,g'.2.2.1,g'.2.2.2.1,g'.2.2.2.2.1,g'.2.2.2.2.2.1,g'.2.2.2.2.2.2.1,g'.2.2.2.2.2.2.2.1,g'.2.2.2.2.2.2.2.2.1,g'.2.2.2.2.2.2.2.2.2.1,g'.2.2.2.2.2.2.2.2.2.2.1,())]) ([Fr k s.2.2.1 (Cu 0 f),((10:Int),(0:Int),(1:Int),([]:List YB),s.2.2.1,X.2.2.1,(0:Int),([]:List YB),X.2.2.2.1,(0:Int),(0:Int),(0:Int),()),Fi y' g']) p' b y g zz zq0 zq0 zq0 zq0 zq0 (by simp only[Dg,G5,List.length_nil,List.length_cons];simp only[Ar]at*;omega) (by simp only[Dg,Fd,Fr,Fi,I2,List.length_nil,List.length_cons];omega)
  |false=>
   simp only[Bool.not_false,A0,An,Ag,List.length_nil,List.nil_append,List.length_cons,List.length_append,Nat.zero_add,Nat.reduceAdd,Nat.reduceLeDiff,decide_true,Ba,d2,d5]
   obtain⟨p',b,of1,of2,OF1,OF2,OF3⟩:=F8 (A5 s) n a d zq0
   obtain⟨y,g,zz,g1,g2,e',GS1,GS2,GS3,_⟩:=En (X) 5 d.1 zq0
   have hyk:=D3 y
   rw[show Cd _ n a d=some (p',(b,()))from of1,show Df _ n a d=some (p',(b,()))from of2,show Bq _ (5,()) d=some (y,g,(zz,()))from g1,show Ci _ (5,()) d=some (y,g,(zz,()))from g2]
   simp only[Ag]
   rw[G8 y g zq0 zq0,Hq y g zq0 zq0]
   simp only[Ag,List.length_nil,List.nil_append,List.append_nil,List.length_cons,List.length_append,Nat.zero_add,Nat.reduceAdd,Nat.reduceLeDiff,decide_true,Ba,d2,d4]
   exact tail (X) (A5 s) ([]) ([Fr k s.2.2.1 (Cu 0 f),((10:Int),(0:Int),(1:Int),([]:List YB),s.2.2.1,X.2.2.1,(0:Int),([]:List YB),X.2.2.2.1,(0:Int),(0:Int),(0:Int),())]) p' b y g zz zq0 zq0 zq0 zq0 zq0 (by simp only[Dg,G5,List.length_nil,List.length_cons];simp only[Ar]at*;omega) (by simp only[Dg,Fd,Fr,Fi,I2,List.length_nil,List.length_cons];omega)
 |true=>
  simp only[Bool.not_true,A0,An,Ag]
  cases hza:(za==(0:Int))with
  |true=>
   simp only[Bool.not_true,A0,An,Ag,List.length_nil,List.nil_append,List.length_cons,List.length_append,Nat.zero_add,Nat.reduceAdd,Nat.reduceLeDiff,decide_true,Ba,d2,d5]
   obtain⟨p',b,of1,of2,OF1,OF2,OF3⟩:=F8 (A5 s) n a d zq0
   obtain⟨y,g,zz,g1,g2,e',GS1,GS2,GS3,_⟩:=En (y') 5 d.1 zq0
   have hyk:=D3 y
   rw[show Cd _ n a d=some (p',(b,()))from of1,show Df _ n a d=some (p',(b,()))from of2,show Bq _ (5,()) d=some (y,g,(zz,()))from g1,show Ci _ (5,()) d=some (y,g,(zz,()))from g2]
   simp only[Ag]
   rw[G8 y g zq0 zq0,Hq y g zq0 zq0]
   simp only[Ag,List.length_nil,List.nil_append,List.append_nil,List.length_cons,List.length_append,Nat.zero_add,Nat.reduceAdd,Nat.reduceLeDiff,decide_true,Ba,d2,d4]
   exact tail (y') (A5 s) ([(s.2.2.2.2.2.2.2.2.2.2.2.2.2.2.2.2.2.2.1,s.2.2.2.2.2.2.2.2.2.2.2.2.2.2.2.2.2.2.2.1,g'.1,g'.2.1,g'.2.2.1,g'.2.2.2.1,g'.2.2.2.2.1,g'.2.2.2.2.2.1,g'.2.2.2.2.2.2.1,g'.2.2.2.2.2.2.2.1,g'.2.2.2.2.2.2.2.2.1,g'.2.2.2.2.2.2.2.2.2.1,g'.2.2.2.2.2.2.2.2.2.2.1,())]) ([Fr k s.2.2.1 (Cu 0 f),Fi y' g']) p' b y g zz zq0 zq0 zq0 zq0 zq0 (by simp only[Dg,G5,List.length_nil,List.length_cons];simp only[Ar]at*;omega) (by simp only[Dg,Fd,Fr,Fi,I2,List.length_nil,List.length_cons];omega)
  |false=>
   simp only[Bool.not_false,A0,An,Ag,List.length_nil,List.nil_append,List.length_cons,List.length_append,Nat.zero_add,Nat.reduceAdd,Nat.reduceLeDiff,decide_true,Ba,d2,d5]
   obtain⟨p',b,of1,of2,OF1,OF2,OF3⟩:=F8 (A5 s) n a d zq0
   obtain⟨y,g,zz,g1,g2,e',GS1,GS2,GS3,_⟩:=En (X) 5 d.1 zq0
   have hyk:=D3 y
   rw[show Cd _ n a d=some (p',(b,()))from of1,show Df _ n a d=some (p',(b,()))from of2,show Bq _ (5,()) d=some (y,g,(zz,()))from g1,show Ci _ (5,()) d=some (y,g,(zz,()))from g2]
   simp only[Ag]
   rw[G8 y g zq0 zq0,Hq y g zq0 zq0]
   simp only[Ag,List.length_nil,List.nil_append,List.append_nil,List.length_cons,List.length_append,Nat.zero_add,Nat.reduceAdd,Nat.reduceLeDiff,decide_true,Ba,d2,d4]
   exact tail (X) (A5 s) ([]) ([Fr k s.2.2.1 (Cu 0 f)]) p' b y g zz zq0 zq0 zq0 zq0 zq0 (by simp only[Dg,G5,List.length_nil,List.length_cons];simp only[Ar]at*;omega) (by simp only[Dg,Fd,Fr,Fi,I2,List.length_nil,List.length_cons];omega)
end
end Go.Proofs.YtmhhajdeafijmaaGreat

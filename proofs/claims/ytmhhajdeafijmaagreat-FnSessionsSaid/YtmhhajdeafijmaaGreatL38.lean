/-
  That the program and the reference answer alike, in plain terms, and that the laws answer true.
-/
import Derived.Test.YtmhhajdeafijmaaGreatL37
namespace Go.Proofs.YtmhhajdeafijmaaGreat
open Go.RowKit
set_option linter.unusedVariables false
set_option linter.unusedSimpArgs false
set_option maxRecDepth 100000
set_option maxHeartbeats 8000000
noncomputable section
def Gk (s:Bp) (X:Al) (P:Bb) (la:Int):Bp:=(s.1,s.2.1,s.2.2.1,X.1,X.2.1,X.2.2.1,X.2.2.2.1,X.2.2.2.2.1,X.2.2.2.2.2.1,X.2.2.2.2.2.2.1,X.2.2.2.2.2.2.2.1,X.2.2.2.2.2.2.2.2.1,X.2.2.2.2.2.2.2.2.2.1,X.2.2.2.2.2.2.2.2.2.2.1,X.2.2.2.2.2.2.2.2.2.2.2.1,X.2.2.2.2.2.2.2.2.2.2.2.2.1,X.2.2.2.2.2.2.2.2.2.2.2.2.2.1,X.2.2.2.2.2.2.2.2.2.2.2.2.2.2.1,P.1,P.2.1,P.2.2.1,s.2.2.2.2.2.2.2.2.2.2.2.2.2.2.2.2.2.2.2.2.2.1,la,s.2.2.2.2.2.2.2.2.2.2.2.2.2.2.2.2.2.2.2.2.2.2.2.1,())
def SeH (s:Bp) (m:Nat) (r:Bp) (os:List Cv) (ns:List B8):Prop:=Br r≤Br s+900∧os.length+Dd Gy os≤4*(Br s+m+900)∧ns.length+Dd Fc ns≤12*(Br s+m+900)
theorem Ar9 (s:Bp) (X:Al) (P:Bb) (la:Int):Br (Gk s X P la)+Av (Ci s)+As (A5 s)=Br s+Av X+As P:=by
 simp only[Br,Gk,Av,Ci,As,A5];omega
theorem Ayc (s:Bp) (n:YI) (a:B7) (f:Au) (d:YBs) (h:Br s≤8388608) (h2:Aq f≤8388608) (h3:d.1.length≤8388608) (w1:wfB f.2.2.2.1) (w2:wfB (Ci s).2.1):
  ∃r os ns k,Ly s n a f d=some (r,(os,()),(ns,()),(k,()))∧V_s_SessHear s n a f d=some (r,(os,()),(ns,()),(k,()))∧SeH s (Aq f+d.1.length) r os ns:=by
 have none: ∃r os ns k,some (s,(([]:List Cv),()),(([]:List B8),()),(false,()))=some (r,(os,()),(ns,()),(k,()))∧some (s,(([]:List Cv),()),(([]:List B8),()),(false,()))=some (r,(os,()),(ns,()),(k,()))∧SeH s (Aq f+d.1.length) r os ns:=⟨s,[],[],false,rfl,rfl,by omega,by simp[Dd],by simp[Dd]⟩
 have hch:=Akx s
 have hpa:=W4 s
 have hck:=Dv (Ci s)
 have hsl:s.2.2.1.length≤Br s:=by simp only[Br];omega
 have htl:=Nu 0 f
 obtain⟨ch,p,z,o1,o2,O1,O2,O3,O4⟩:=Akz (Ci s) n f zq0 zq0 w1 w2
 obtain⟨k,kb,y1,y2,y3,y4⟩:=Ar7 (Ci s) (f.2.2.2.2.2.2.2.1,()) zq0
 have hchk:=Dv ch
 unfold Ly Qe V_s_SessHear T_s_SessHear
 simp only[Ae,Ai,Ac,Aj,D_s_SessHear_1,D_s_SessHear_2,D_s_SessHear_3,D_s_SessHear_4,D_s_SessHear_5,D_s_SessHear_6,D_s_SessHear_7]
 rw[Aok s zq0,A23 s zq0,Aeu s zq0,A4y s zq0,Kf,Rs]
 simp only[Ag]
 cases ho:Fm s with
 |false=>exact none
 |true=>
 simp only[Bool.not_true,Am]
 by_cases hd0:s.2.2.2.2.2.2.2.2.2.2.2.2.2.2.2.2.2.2.2.2.2.2.2.1=true
 ·rw[Fg hd0,Fg hd0];exact none
 have hd:s.2.2.2.2.2.2.2.2.2.2.2.2.2.2.2.2.2.2.2.2.2.2.2.1=false:=by simpa using hd0
 rw[C4 hd,C4 hd]
 cases ha:Dp a with
 |false=>exact none
 |true=>
 simp only[Bool.not_true,Am]
 rw[show Jk _ n f=some (ch,(p,()),(z,()))from o1,show V_s_ChanOpen _ n f=some (ch,(p,()),(z,()))from o2,show Qb _ (f.2.2.2.2.2.2.2.1,())=some ((k,()),(kb,()))from y1,show V_s_KeyFor _ (f.2.2.2.2.2.2.2.1,())=some ((k,()),(kb,()))from y2,Mz _ _ zq0,Qz _ _ zq0]
 simp only[Ag]
 by_cases hz:z=0
 case neg=>
  rw[Fg (by simpa using hz),Fg (by simpa using hz)]
  exact none
 case pos=>
 subst hz
 rw[C4 (by rfl),C4 (by rfl),A3e _ _ _ zq0 zq0 zq0,A74 _ _ _ zq0 zq0 zq0]
 simp only[Ag]
 have d2:decide (s.2.2.1.length≤4294967296)=true:=Ak zq0
 have d4:decide (p.length≤4294967296)=true:=Ak zq0
 have tail: ∀(X:Al) (P:Bb) (os:List Cv) (ns:List B8) (p':Bb) (b:Bool) (y:Al) (g:Au) (zz:Int),Av X≤Av (Ci s)+400→As P≤As (A5 s)+50→Av y≤Av (Ci s)+400→As p'≤As (A5 s)+100→Aq g≤Br s+d.1.length+432→
   os.length+Dd Gy os≤2*(Br s+(Aq f+d.1.length)+900)→ns.length+Dd Fc ns≤8*(Br s+(Aq f+d.1.length)+900)→
   ∃r os' ns' k,br (!b) (some (Gk s X P n.1,(os,()),(ns,()),(false,()))) (br (zz != (0:Int)) (some (Gk s X P n.1,(os,()),(ns,()),(false,()))) (some (Gk s y p' n.1,(os++[(a.1,a.2.1,g.1,g.2.1,g.2.2.1,g.2.2.2.1,g.2.2.2.2.1,g.2.2.2.2.2.1,g.2.2.2.2.2.2.1,g.2.2.2.2.2.2.2.1,g.2.2.2.2.2.2.2.2.1,g.2.2.2.2.2.2.2.2.2.1,g.2.2.2.2.2.2.2.2.2.2.1,())],()),(ns++[Fh y g],()),(true,()))))=some (r,(os',()),(ns',()),(k,()))∧
    br (!b) (some (Gk s X P n.1,(os,()),(ns,()),(false,()))) (br (zz != (0:Int)) (some (Gk s X P n.1,(os,()),(ns,()),(false,()))) (some (Gk s y p' n.1,(os++[(a.1,a.2.1,g.1,g.2.1,g.2.2.1,g.2.2.2.1,g.2.2.2.2.1,g.2.2.2.2.2.1,g.2.2.2.2.2.2.1,g.2.2.2.2.2.2.2.1,g.2.2.2.2.2.2.2.2.1,g.2.2.2.2.2.2.2.2.2.1,g.2.2.2.2.2.2.2.2.2.2.1,())],()),(ns++[Fh y g],()),(true,()))))=some (r,(os',()),(ns',()),(k,()))∧SeH s (Aq f+d.1.length) r os' ns':=by
  intro X P os ns p' b y g zz h1 h2 h3 h4 h5 h6 h7
  have e1:=Ar9 s X P n.1
  have e2:=Ar9 s y p' n.1
  have e3:=Nu y.1 g
  have e4:=Dv y
  cases b with
  |false=>exact⟨_,_,_,_,rfl,rfl,by omega,by omega,by omega⟩
  |true=>
   simp only[Bool.not_true,Am]
   cases hzz:(zz != (0:Int))with
   |true=>exact⟨_,_,_,_,rfl,rfl,by omega,by omega,by omega⟩
   |false=>
    refine⟨_,_,_,_,rfl,rfl,by omega,?_,?_⟩
    ·simp only[Ae8,Dd,Gy,List.length_append,List.length_nil,List.length_cons]
     simp only[Aq]at*
     omega
    ·simp only[Ae8,Dd,List.length_append,List.length_nil,List.length_cons]
     have e5:Fc (Fh y g)=y.2.2.2.1.length+(Cr y.1 g).length:=by simp only[Fc,Fh,It,List.length_nil];omega
     omega
 simp only[List.length_nil,List.nil_append,List.length_cons,Nat.zero_add,Nat.reduceLeDiff,decide_true,A8]
 cases h4:(f.1==(4:Int))with
 |true=>
  simp (disch:=first|omega|(dsimp only;omega)) only[A0,Cu]
  obtain⟨p',b,of1,of2,OF1,OF2,OF3⟩:=F5 (A5 s) n a d zq0
  obtain⟨y,g,zz,g1,g2,e',GS1,GS2,GS3,_⟩:=Ek (ch) 5 d.1 zq0
  have hyk:=Dv y
  rw[show Cc _ n a d=some (p',(b,()))from of1,show Fa _ n a d=some (p',(b,()))from of2,show Bm _ (5,()) d=some (y,g,(zz,()))from g1,show V_s_ChanSeal _ (5,()) d=some (y,g,(zz,()))from g2]
  simp only[Ag]
  rw[G4 y g zq0 zq0,Hl y g zq0 zq0]
  simp only[Ag,List.length_nil,List.nil_append,List.append_nil,List.length_cons,List.length_append,Nat.zero_add,Nat.reduceAdd,Nat.reduceLeDiff,decide_true,A8,d2,d4]
  exact tail (ch) (A5 s) ([]) ([Fo k s.2.2.1 (Cr 0 f),((6:Int),(0:Int),(0:Int),([]:List YB),s.2.2.1,f.2.2.2.2.2.2.2.1,f.2.2.2.2.2.2.2.2.1,p,([]:List YB),(0:Int),(0:Int),n.1,())]) p' b y g zz zq0 zq0 zq0 zq0 zq0 (by simp only[Dd,Gy,List.length_nil,List.length_cons];simp only[Aq]at*;omega) (by simp only[Dd,Fc,Fo,Fh,It,List.length_nil,List.length_cons];omega)
 |false=>
 simp only[Am]
 cases h6:(f.1==(6:Int))with
 |true=>
  simp only[A0]
  obtain⟨pa,ab,an1,an2,AN1,AN2,AN3⟩:=Ail (A5 s) n a (p,()) zq0
  rw[show Kc _ n a (p,())=some (pa,(ab,()))from an1,show V_s_Answer _ n a (p,())=some (pa,(ab,()))from an2]
  simp only[Ag]
  cases ab with
  |true=>
   simp (disch:=first|omega|(dsimp only;omega)) only[A0,Cu]
   obtain⟨p',b,of1,of2,OF1,OF2,OF3⟩:=F5 (pa) n a d zq0
   obtain⟨y,g,zz,g1,g2,e',GS1,GS2,GS3,_⟩:=Ek (ch) 5 d.1 zq0
   have hyk:=Dv y
   rw[show Cc _ n a d=some (p',(b,()))from of1,show Fa _ n a d=some (p',(b,()))from of2,show Bm _ (5,()) d=some (y,g,(zz,()))from g1,show V_s_ChanSeal _ (5,()) d=some (y,g,(zz,()))from g2]
   simp only[Ag]
   rw[G4 y g zq0 zq0,Hl y g zq0 zq0]
   simp only[Ag,List.length_nil,List.nil_append,List.append_nil,List.length_cons,List.length_append,Nat.zero_add,Nat.reduceAdd,Nat.reduceLeDiff,decide_true,A8,d2,d4]
   exact tail (ch) (pa) ([]) ([Fo k s.2.2.1 (Cr 0 f),((9:Int),(0:Int),(0:Int),([]:List YB),s.2.2.1,(0:Int),(0:Int),p,([]:List YB),a.1,a.2.1,n.1,())]) p' b y g zz zq0 zq0 zq0 zq0 zq0 (by simp only[Dd,Gy,List.length_nil,List.length_cons];simp only[Aq]at*;omega) (by simp only[Dd,Fc,Fo,Fh,It,List.length_nil,List.length_cons];omega)
  |false=>
   simp only[Am]
   obtain⟨p',b,of1,of2,OF1,OF2,OF3⟩:=F5 (A5 s) n a d zq0
   obtain⟨y,g,zz,g1,g2,e',GS1,GS2,GS3,_⟩:=Ek (ch) 5 d.1 zq0
   have hyk:=Dv y
   rw[show Cc _ n a d=some (p',(b,()))from of1,show Fa _ n a d=some (p',(b,()))from of2,show Bm _ (5,()) d=some (y,g,(zz,()))from g1,show V_s_ChanSeal _ (5,()) d=some (y,g,(zz,()))from g2]
   simp only[Ag]
   rw[G4 y g zq0 zq0,Hl y g zq0 zq0]
   simp only[Ag,List.length_nil,List.nil_append,List.append_nil,List.length_cons,List.length_append,Nat.zero_add,Nat.reduceAdd,Nat.reduceLeDiff,decide_true,A8,d2,d4]
   exact tail (ch) (A5 s) ([]) ([Fo k s.2.2.1 (Cr 0 f)]) p' b y g zz zq0 zq0 zq0 zq0 zq0 (by simp only[Dd,Gy,List.length_nil,List.length_cons];simp only[Aq]at*;omega) (by simp only[Dd,Fc,Fo,Fh,It,List.length_nil,List.length_cons];omega)
 |false=>
 simp only[Am]
 cases h7:(f.1==(7:Int))with
 |false=>
  simp only[Am]
  obtain⟨p',b,of1,of2,OF1,OF2,OF3⟩:=F5 (A5 s) n a d zq0
  obtain⟨y,g,zz,g1,g2,e',GS1,GS2,GS3,_⟩:=Ek (ch) 5 d.1 zq0
  have hyk:=Dv y
  rw[show Cc _ n a d=some (p',(b,()))from of1,show Fa _ n a d=some (p',(b,()))from of2,show Bm _ (5,()) d=some (y,g,(zz,()))from g1,show V_s_ChanSeal _ (5,()) d=some (y,g,(zz,()))from g2]
  simp only[Ag]
  rw[G4 y g zq0 zq0,Hl y g zq0 zq0]
  simp only[Ag,List.length_nil,List.nil_append,List.append_nil,List.length_cons,List.length_append,Nat.zero_add,Nat.reduceAdd,Nat.reduceLeDiff,decide_true,A8,d2,d4]
  exact tail (ch) (A5 s) ([]) ([Fo k s.2.2.1 (Cr 0 f)]) p' b y g zz zq0 zq0 zq0 zq0 zq0 (by simp only[Dd,Gy,List.length_nil,List.length_cons];simp only[Aq]at*;omega) (by simp only[Dd,Fc,Fo,Fh,It,List.length_nil,List.length_cons];omega)
 |true=>
 simp only[A0]
 obtain⟨X,zr,r1,r2,R1,R2,R3⟩:=Aim ch (f.2.2.2.2.2.2.2.1,()) (p,()) zq0
 have hXk:=Dv X
 have d5:decide (X.2.2.2.1.length≤4294967296)=true:=Ak zq0
 unfold N8 N7
 simp only[Ae,Ai,Ac,Aj]
 rw[show Ku _ (f.2.2.2.2.2.2.2.1,()) (p,())=some (X,(zr,()))from r1,show V_s_HearRekey _ (f.2.2.2.2.2.2.2.1,()) (p,())=some (X,(zr,()))from r2]
 simp only[Ag,bne]
 cases hzr:(zr==(0:Int))with
 |false=>
  simp only[Bool.not_false,A0,Am,Ag]
  obtain⟨p',b,of1,of2,OF1,OF2,OF3⟩:=F5 (A5 s) n a d zq0
  obtain⟨y,g,zz,g1,g2,e',GS1,GS2,GS3,_⟩:=Ek (ch) 5 d.1 zq0
  have hyk:=Dv y
  rw[show Cc _ n a d=some (p',(b,()))from of1,show Fa _ n a d=some (p',(b,()))from of2,show Bm _ (5,()) d=some (y,g,(zz,()))from g1,show V_s_ChanSeal _ (5,()) d=some (y,g,(zz,()))from g2]
  simp only[Ag]
  rw[G4 y g zq0 zq0,Hl y g zq0 zq0]
  simp only[Ag,List.length_nil,List.nil_append,List.append_nil,List.length_cons,List.length_append,Nat.zero_add,Nat.reduceAdd,Nat.reduceLeDiff,decide_true,A8,d2,d4]
  exact tail (ch) (A5 s) ([]) ([Fo k s.2.2.1 (Cr 0 f)]) p' b y g zz zq0 zq0 zq0 zq0 zq0 (by simp only[Dd,Gy,List.length_nil,List.length_cons];simp only[Aq]at*;omega) (by simp only[Dd,Fc,Fo,Fh,It,List.length_nil,List.length_cons];omega)
 |true=>
 simp only[Bool.not_true,A0,Am]
 obtain⟨y',g',za,k1,k2,K1,K2,_⟩:=A29 X zq0
 have hyk':=Dv y'
 have htl2:=Nu y'.1 g'
 rw[k1,k2]
 simp only[Ag]
 rw[G4 y' g' zq0 zq0,Hl y' g' zq0 zq0]
 cases hN:(X.2.2.1==ch.2.2.1)with
 |false=>
  simp (disch:=first|omega|(dsimp only;omega)) only[Bool.not_false,A0,Am,Cu,Ag]
  cases hza:(za==(0:Int))with
  |true=>
   simp only[Bool.not_true,A0,Am,Ag,List.length_nil,List.nil_append,List.length_cons,List.length_append,Nat.zero_add,Nat.reduceAdd,Nat.reduceLeDiff,decide_true,A8,d2,d5]
   obtain⟨p',b,of1,of2,OF1,OF2,OF3⟩:=F5 (A5 s) n a d zq0
   obtain⟨y,g,zz,g1,g2,e',GS1,GS2,GS3,_⟩:=Ek (y') 5 d.1 zq0
   have hyk:=Dv y
   rw[show Cc _ n a d=some (p',(b,()))from of1,show Fa _ n a d=some (p',(b,()))from of2,show Bm _ (5,()) d=some (y,g,(zz,()))from g1,show V_s_ChanSeal _ (5,()) d=some (y,g,(zz,()))from g2]
   simp only[Ag]
   rw[G4 y g zq0 zq0,Hl y g zq0 zq0]
   simp only[Ag,List.length_nil,List.nil_append,List.append_nil,List.length_cons,List.length_append,Nat.zero_add,Nat.reduceAdd,Nat.reduceLeDiff,decide_true,A8,d2,d4]
   exact tail (y') (A5 s) ([(s.2.2.2.2.2.2.2.2.2.2.2.2.2.2.2.2.2.2.1,s.2.2.2.2.2.2.2.2.2.2.2.2.2.2.2.2.2.2.2.1,g'.1,g'.2.1,g'.2.2.1,g'.2.2.2.1,g'.2.2.2.2.1,g'.2.2.2.2.2.1,g'.2.2.2.2.2.2.1,g'.2.2.2.2.2.2.2.1,g'.2.2.2.2.2.2.2.2.1,g'.2.2.2.2.2.2.2.2.2.1,g'.2.2.2.2.2.2.2.2.2.2.1,())]) ([Fo k s.2.2.1 (Cr 0 f),((10:Int),(0:Int),(1:Int),([]:List YB),s.2.2.1,X.2.2.1,(0:Int),([]:List YB),X.2.2.2.1,(0:Int),(0:Int),(0:Int),()),Fh y' g']) p' b y g zz zq0 zq0 zq0 zq0 zq0 (by simp only[Dd,Gy,List.length_nil,List.length_cons];simp only[Aq]at*;omega) (by simp only[Dd,Fc,Fo,Fh,It,List.length_nil,List.length_cons];omega)
  |false=>
   simp only[Bool.not_false,A0,Am,Ag,List.length_nil,List.nil_append,List.length_cons,List.length_append,Nat.zero_add,Nat.reduceAdd,Nat.reduceLeDiff,decide_true,A8,d2,d5]
   obtain⟨p',b,of1,of2,OF1,OF2,OF3⟩:=F5 (A5 s) n a d zq0
   obtain⟨y,g,zz,g1,g2,e',GS1,GS2,GS3,_⟩:=Ek (X) 5 d.1 zq0
   have hyk:=Dv y
   rw[show Cc _ n a d=some (p',(b,()))from of1,show Fa _ n a d=some (p',(b,()))from of2,show Bm _ (5,()) d=some (y,g,(zz,()))from g1,show V_s_ChanSeal _ (5,()) d=some (y,g,(zz,()))from g2]
   simp only[Ag]
   rw[G4 y g zq0 zq0,Hl y g zq0 zq0]
   simp only[Ag,List.length_nil,List.nil_append,List.append_nil,List.length_cons,List.length_append,Nat.zero_add,Nat.reduceAdd,Nat.reduceLeDiff,decide_true,A8,d2,d4]
   exact tail (X) (A5 s) ([]) ([Fo k s.2.2.1 (Cr 0 f),((10:Int),(0:Int),(1:Int),([]:List YB),s.2.2.1,X.2.2.1,(0:Int),([]:List YB),X.2.2.2.1,(0:Int),(0:Int),(0:Int),())]) p' b y g zz zq0 zq0 zq0 zq0 zq0 (by simp only[Dd,Gy,List.length_nil,List.length_cons];simp only[Aq]at*;omega) (by simp only[Dd,Fc,Fo,Fh,It,List.length_nil,List.length_cons];omega)
 |true=>
  simp only[Bool.not_true,A0,Am,Ag]
  cases hza:(za==(0:Int))with
  |true=>
   simp only[Bool.not_true,A0,Am,Ag,List.length_nil,List.nil_append,List.length_cons,List.length_append,Nat.zero_add,Nat.reduceAdd,Nat.reduceLeDiff,decide_true,A8,d2,d5]
   obtain⟨p',b,of1,of2,OF1,OF2,OF3⟩:=F5 (A5 s) n a d zq0
   obtain⟨y,g,zz,g1,g2,e',GS1,GS2,GS3,_⟩:=Ek (y') 5 d.1 zq0
   have hyk:=Dv y
   rw[show Cc _ n a d=some (p',(b,()))from of1,show Fa _ n a d=some (p',(b,()))from of2,show Bm _ (5,()) d=some (y,g,(zz,()))from g1,show V_s_ChanSeal _ (5,()) d=some (y,g,(zz,()))from g2]
   simp only[Ag]
   rw[G4 y g zq0 zq0,Hl y g zq0 zq0]
   simp only[Ag,List.length_nil,List.nil_append,List.append_nil,List.length_cons,List.length_append,Nat.zero_add,Nat.reduceAdd,Nat.reduceLeDiff,decide_true,A8,d2,d4]
   exact tail (y') (A5 s) ([(s.2.2.2.2.2.2.2.2.2.2.2.2.2.2.2.2.2.2.1,s.2.2.2.2.2.2.2.2.2.2.2.2.2.2.2.2.2.2.2.1,g'.1,g'.2.1,g'.2.2.1,g'.2.2.2.1,g'.2.2.2.2.1,g'.2.2.2.2.2.1,g'.2.2.2.2.2.2.1,g'.2.2.2.2.2.2.2.1,g'.2.2.2.2.2.2.2.2.1,g'.2.2.2.2.2.2.2.2.2.1,g'.2.2.2.2.2.2.2.2.2.2.1,())]) ([Fo k s.2.2.1 (Cr 0 f),Fh y' g']) p' b y g zz zq0 zq0 zq0 zq0 zq0 (by simp only[Dd,Gy,List.length_nil,List.length_cons];simp only[Aq]at*;omega) (by simp only[Dd,Fc,Fo,Fh,It,List.length_nil,List.length_cons];omega)
  |false=>
   simp only[Bool.not_false,A0,Am,Ag,List.length_nil,List.nil_append,List.length_cons,List.length_append,Nat.zero_add,Nat.reduceAdd,Nat.reduceLeDiff,decide_true,A8,d2,d5]
   obtain⟨p',b,of1,of2,OF1,OF2,OF3⟩:=F5 (A5 s) n a d zq0
   obtain⟨y,g,zz,g1,g2,e',GS1,GS2,GS3,_⟩:=Ek (X) 5 d.1 zq0
   have hyk:=Dv y
   rw[show Cc _ n a d=some (p',(b,()))from of1,show Fa _ n a d=some (p',(b,()))from of2,show Bm _ (5,()) d=some (y,g,(zz,()))from g1,show V_s_ChanSeal _ (5,()) d=some (y,g,(zz,()))from g2]
   simp only[Ag]
   rw[G4 y g zq0 zq0,Hl y g zq0 zq0]
   simp only[Ag,List.length_nil,List.nil_append,List.append_nil,List.length_cons,List.length_append,Nat.zero_add,Nat.reduceAdd,Nat.reduceLeDiff,decide_true,A8,d2,d4]
   exact tail (X) (A5 s) ([]) ([Fo k s.2.2.1 (Cr 0 f)]) p' b y g zz zq0 zq0 zq0 zq0 zq0 (by simp only[Dd,Gy,List.length_nil,List.length_cons];simp only[Aq]at*;omega) (by simp only[Dd,Fc,Fo,Fh,It,List.length_nil,List.length_cons];omega)
end
end Go.Proofs.YtmhhajdeafijmaaGreat

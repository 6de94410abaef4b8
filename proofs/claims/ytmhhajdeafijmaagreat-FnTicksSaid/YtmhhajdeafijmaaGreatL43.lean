/-
  That the program and the reference answer alike, in plain terms, and that the laws answer true.
-/
import Derived.Test.YtmhhajdeafijmaaGreatL42
namespace Go.Proofs.YtmhhajdeafijmaaGreat
open Go.RowKit
set_option linter.unusedVariables false
set_option linter.unusedSimpArgs false
set_option maxRecDepth 100000
set_option maxHeartbeats 16000000
noncomputable section
theorem Azu (c:Ab):Tot (fun _=>True) (Le c):=by rw[Aik];exact Ak trivial
theorem A7d (c:YBs):Tot (fun _=>True) (Ld c):=by rw[Afh];exact Ak trivial
theorem A40 (c:Gv):Tot (fun _=>True) (Pe c):=by rw[Aqa];exact Ak trivial
theorem E8 (k:YBs):Tot (fun r=>r.1.length≤32) (Bt k (Bq [114,101,107,101,121],())):=by
 have h:=Aij k.1 Ct
 have e:Bt k (Bq [114,101,107,101,121],())=some (B0 k.1 Ct,()):=Abx k.1
 rw[e];exact Ak zq2
theorem Axg (n:YI):Tot (fun r=>r.1.length≤4) (H0 n):=by
 have e:H0 n=some (Ce n.1,()):=Aou n.1
 rw[e];exact Ak (Abz n.1)
theorem A81 (k:YBs) (r:YI) (sn:YBs) (ep seq kind:YI) (p:YBs) (h1:sn.1.length≤60000000) (h2:p.1.length≤60000000):Tot (fun q=>As q.1≤sn.1.length+p.1.length+100∧(wfB sn.1→wfB q.1.2.2.2.1)) (Lf k r sn ep seq kind p):=by
 have e:Lf k r sn ep seq kind p=some (Be k.1 r.1 sn.1 ep.1 seq.1 kind.1 p.1):=Ay8 k.1 r.1 sn.1 ep.1 seq.1 kind.1 p.1 zq0 zq0
 have hm:=Al1 k.1 (Bz r.1 sn.1 ep.1 seq.1) p.1
 rw[e]
 refine Ak ?_
 unfold Be
 cases D7 k.1 r.1 sn.1 ep.1 seq.1 kind.1 p.1 with
 |false=>exact⟨by simp[As,Dz],fun _=>Gk⟩
 |true=>
  refine⟨?_,fun h=>h⟩
  have ht: ∀m,(Jw k.1 m).length≤16:=fun m=>by unfold Jw;rw[List.length_take];omega
  have:=ht (Bs r.1 (kind.1,0,[],sn.1,0,[],[],ep.1,seq.1,mix k.1 (Bz r.1 sn.1 ep.1 seq.1) p.1,Gr,()))
  simp only[cond_true,As,List.length_nil]
  omega
theorem A12 (c:Ab) (h:c.2.2.2.2.2.1.length≤4294967296):Tot (fun _=>True) (Mw c):=by
 unfold Mw Ry
 simp only[Ag,Ai,Ad,Ao,List.length_nil,List.nil_append,Nat.zero_add]
 exact Hk (Am h) (Ak trivial)
theorem A41 {b:List YB} {a0:A7} (hc:Ck b a0):Tot (fun r=>r.1.2.1.length=32∧Ck b r.2) (Pm a0):=by
 unfold Pm W5
 simp only[Ag,Ai,Ad,Ao,List.length_nil,List.nil_append,Nat.zero_add]
 refine Aq (Asq _ hc zq9) (fun r1 ⟨hr11,hr1c⟩=>?_)
 refine Aq (A7c _ (by assumption)) (fun r2 hr21=>?_)
 exact Ak ⟨by assumption,(Ap hc hr1c)⟩
theorem A13 (a0:YI) (a1 a2:YBs) (hl:a1.1.length≤1000):Tot (fun r=>Ar r≤100∧(wfB a1.1→wfB r.2.1)) (Ir a0 a1 a2):=by
 unfold Ir R1
 simp only[Ag,Ai,Ad,Ao,List.length_nil,List.nil_append,Nat.zero_add]
 refine Aq (Rj _ _ _) (fun r1 _=>?_)
 refine Ax (fun hb1=>?_) (fun hb1=>?_)
 ·exact Ak ⟨Cy,fun hw=>by(dsimp only;first|exact Gk|exact hw)⟩
 ·refine Ax (fun hb3=>?_) (fun hb3=>?_)
  ·exact Ak ⟨Cy,fun hw=>by(dsimp only;first|exact Gk|exact hw)⟩
  ·have hd3:=bne_eq_false_iff_eq.1 hb3
   refine Ax (fun hb6=>?_) (fun hb6=>?_)
   ·exact Ak ⟨Cy,fun hw=>by(dsimp only;first|exact Gk|exact hw)⟩
   ·have hd6:=bne_eq_false_iff_eq.1 hb6
    refine Hk (Am zq9) ?_
    refine Aq (Amc _ _) (fun r2 hr21=>?_)
    exact Ak ⟨Cy,fun hw=>by(dsimp only;first|exact Gk|exact hw)⟩
theorem Axh (a0:YI) (a1:YBs) (a2:Gv) (hl:a1.1.length≤1000):Tot (fun r=>Al r≤1000∧wfB (Bm r).2.1) (Hy a0 a1 a2):=by
 unfold Hy Nl
 simp only[Ag,Ai,Ad,Ao,List.length_nil,List.nil_append,Nat.zero_add]
 refine Aq (Rj _ _ _) (fun r1 _=>?_)
 refine Ax (fun hb1=>?_) (fun hb1=>?_)
 ·exact Ak ⟨Cy,Gk⟩
 ·refine Aq (A7d _) (fun r2 _=>?_)
  refine Ax (fun hb4=>?_) (fun hb4=>?_)
  ·exact Ak ⟨Cy,Gk⟩
  ·refine Aq (A40 _) (fun r3 _=>?_)
   refine Ax (fun hb7=>?_) (fun hb7=>?_)
   ·exact Ak ⟨Cy,Gk⟩
   ·refine Hk (Am zq9) ?_
    exact Ak ⟨Cy,Gk⟩
theorem A82 (a0:Ab) (a1:YI) (a2:YBs) (hn:Al a0≤100000) (hl:a2.1.length≤1000):Tot (fun r=>Al r.1≤Al a0+a2.1.length∧(wfB (Bm a0).2.1→wfB (Bm r.1).2.1)) (N0 a0 a1 a2):=by
 unfold N0 Af9
 simp only[Ag,Ai,Ad,Ao,List.length_nil,List.nil_append,Nat.zero_add]
 rw[Al4 _ zq0]
 simp only[Aj]
 refine Aq (Azu _) (fun r2 _=>?_)
 refine Ax (fun hb3=>?_) (fun hb3=>?_)
 ·exact Ak ⟨Cy,fun hw=>hw⟩
 ·refine Aq (Rj _ _ _) (fun r3 _=>?_)
  refine Ax (fun hb6=>?_) (fun hb6=>?_)
  ·exact Ak ⟨Cy,fun hw=>hw⟩
  ·refine Ax (fun hb8=>?_) (fun hb8=>?_)
   ·exact Ak ⟨Cy,fun hw=>hw⟩
   ·have hd8:=bne_eq_false_iff_eq.1 hb8
    refine Ax (fun hb11=>?_) (fun hb11=>?_)
    ·exact Ak ⟨Cy,fun hw=>hw⟩
    ·have hd11:=bne_eq_false_iff_eq.1 hb11
     refine Hk (Am zq9) ?_
     refine Aq (Pz _) (fun r4 _=>?_)
     refine Hk (Am zq9) ?_
     refine Aq (A12 _ zq9) (fun r5 _=>?_)
     exact Ak ⟨Cy,fun hw=>hw⟩
theorem A14 {b:List YB} {a0:A7} (a1:YI) (hc:Ck b a0):Tot (fun r=>(Ar r.1≤400∧wfB r.1.2.1)∧Ck b r.2) (Mx a0 a1):=by
 unfold Mx R3
 simp only[Ag,Ai,Ad,Ao,List.length_nil,List.nil_append,Nat.zero_add]
 refine Aq (Dg _ hc zq9) (fun r1 ⟨⟨hr11,hr12⟩,hr1c⟩=>?_)
 refine Aq (Dg _ (Ap hc hr1c) zq9) (fun r2 ⟨⟨hr21,hr22⟩,hr2c⟩=>?_)
 refine Aq (A13 _ _ _ zq9) (fun r3 ⟨hr31,hr32⟩=>?_)
 refine Aq (C9 _ (0) (281474976710656) (Ap hc hr2c) zq4 zq4) (fun r4 ⟨⟨hr41,hr42⟩,hr4c⟩=>?_)
 refine Aq (Cw _ (Ap hc hr4c) zq9) (fun r5 hr5c=>?_)
 refine Ax (fun hb5=>?_) (fun hb5=>?_)
 ·refine Aq (A41 (Ap hc hr5c)) (fun r6 ⟨hr61,hr6c⟩=>?_)
  refine Aq (Cw _ (Ap hc hr6c) zq9) (fun r7 hr7c=>?_)
  refine Ax (fun hb8=>?_) (fun hb8=>?_)
  ·refine Aq (C9 _ (1) (4294967295) (Ap hc hr7c) zq4 zq4) (fun r8 ⟨⟨hr81,hr82⟩,hr8c⟩=>?_)
   refine Aq (E8 _) (fun r9 hr91=>?_)
   refine Aq (Amc _ _) (fun r10 hr101=>?_)
   refine Aq (C9 _ (-1) (1000005) (Ap hc hr8c) zq4 zq4) (fun r11 ⟨⟨hr111,hr112⟩,hr11c⟩=>?_)
   refine Ax (fun hb13=>?_) (fun hb13=>?_)
   ·have hd13:=eq_of_beq hb13
    refine Ax (fun hb15=>?_) (fun hb15=>?_)
    ·have hd15:=of_decide_eq_true hb15
     refine Ax (fun hb17=>?_) (fun hb17=>?_)
     ·have hd17:=eq_of_beq hb17
      refine Ax (fun hb19=>?_) (fun hb19=>?_)
      ·have hd19:=of_decide_eq_true hb19
       refine Aq (Cw _ (Ap hc hr11c) zq9) (fun r12 hr12c=>?_)
       refine Ax (fun hb22=>?_) (fun hb22=>?_)
       ·refine Aq (E8 _) (fun r13 hr131=>?_)
        exact Ak ⟨⟨Cy,Ep⟩,(Ap hc hr12c)⟩
       ·exact Ak ⟨⟨Cy,Ep⟩,(Ap hc hr12c)⟩
      ·have hd19:=of_decide_eq_false hb19
       exact Ak ⟨⟨Cy,Ep⟩,(Ap hc hr11c)⟩
     ·exact Ak ⟨⟨Cy,Ep⟩,(Ap hc hr11c)⟩
    ·have hd15:=of_decide_eq_false hb15
     refine Ax (fun hb30=>?_) (fun hb30=>?_)
     ·have hd30:=eq_of_beq hb30
      refine Ax (fun hb32=>?_) (fun hb32=>?_)
      ·have hd32:=of_decide_eq_true hb32
       refine Aq (Cw _ (Ap hc hr11c) zq9) (fun r14 hr14c=>?_)
       refine Ax (fun hb35=>?_) (fun hb35=>?_)
       ·refine Aq (E8 _) (fun r15 hr151=>?_)
        exact Ak ⟨⟨Cy,Ep⟩,(Ap hc hr14c)⟩
       ·exact Ak ⟨⟨Cy,Ep⟩,(Ap hc hr14c)⟩
      ·have hd32:=of_decide_eq_false hb32
       exact Ak ⟨⟨Cy,Ep⟩,(Ap hc hr11c)⟩
     ·exact Ak ⟨⟨Cy,Ep⟩,(Ap hc hr11c)⟩
   ·refine Ax (fun hb42=>?_) (fun hb42=>?_)
    ·have hd42:=eq_of_beq hb42
     refine Ax (fun hb44=>?_) (fun hb44=>?_)
     ·have hd44:=of_decide_eq_true hb44
      refine Aq (Cw _ (Ap hc hr11c) zq9) (fun r16 hr16c=>?_)
      refine Ax (fun hb47=>?_) (fun hb47=>?_)
      ·refine Aq (E8 _) (fun r17 hr171=>?_)
       exact Ak ⟨⟨Cy,Ep⟩,(Ap hc hr16c)⟩
      ·exact Ak ⟨⟨Cy,Ep⟩,(Ap hc hr16c)⟩
     ·have hd44:=of_decide_eq_false hb44
      exact Ak ⟨⟨Cy,Ep⟩,(Ap hc hr11c)⟩
    ·exact Ak ⟨⟨Cy,Ep⟩,(Ap hc hr11c)⟩
  ·refine Ax (fun hb54=>?_) (fun hb54=>?_)
   ·have hd54:=eq_of_beq hb54
    refine Ax (fun hb56=>?_) (fun hb56=>?_)
    ·have hd56:=of_decide_eq_true hb56
     refine Aq (Cw _ (Ap hc hr7c) zq9) (fun r18 hr18c=>?_)
     refine Ax (fun hb59=>?_) (fun hb59=>?_)
     ·refine Aq (E8 _) (fun r19 hr191=>?_)
      exact Ak ⟨⟨Cy,Ep⟩,(Ap hc hr18c)⟩
     ·exact Ak ⟨⟨Cy,Ep⟩,(Ap hc hr18c)⟩
    ·have hd56:=of_decide_eq_false hb56
     exact Ak ⟨⟨Cy,Ep⟩,(Ap hc hr7c)⟩
   ·exact Ak ⟨⟨Cy,Ep⟩,(Ap hc hr7c)⟩
 ·refine Aq (Cw _ (Ap hc hr5c) zq9) (fun r20 hr20c=>?_)
  refine Ax (fun hb67=>?_) (fun hb67=>?_)
  ·refine Aq (C9 _ (1) (4294967295) (Ap hc hr20c) zq4 zq4) (fun r21 ⟨⟨hr211,hr212⟩,hr21c⟩=>?_)
   refine Aq (E8 _) (fun r22 hr221=>?_)
   refine Aq (Amc _ _) (fun r23 hr231=>?_)
   refine Aq (C9 _ (-1) (1000005) (Ap hc hr21c) zq4 zq4) (fun r24 ⟨⟨hr241,hr242⟩,hr24c⟩=>?_)
   refine Ax (fun hb72=>?_) (fun hb72=>?_)
   ·have hd72:=eq_of_beq hb72
    refine Ax (fun hb74=>?_) (fun hb74=>?_)
    ·have hd74:=of_decide_eq_true hb74
     refine Ax (fun hb76=>?_) (fun hb76=>?_)
     ·have hd76:=eq_of_beq hb76
      refine Ax (fun hb78=>?_) (fun hb78=>?_)
      ·have hd78:=of_decide_eq_true hb78
       refine Aq (Cw _ (Ap hc hr24c) zq9) (fun r25 hr25c=>?_)
       refine Ax (fun hb81=>?_) (fun hb81=>?_)
       ·refine Aq (E8 _) (fun r26 hr261=>?_)
        exact Ak ⟨⟨Cy,Ep⟩,(Ap hc hr25c)⟩
       ·exact Ak ⟨⟨Cy,Ep⟩,(Ap hc hr25c)⟩
      ·have hd78:=of_decide_eq_false hb78
       exact Ak ⟨⟨Cy,Ep⟩,(Ap hc hr24c)⟩
     ·exact Ak ⟨⟨Cy,Ep⟩,(Ap hc hr24c)⟩
    ·have hd74:=of_decide_eq_false hb74
     refine Ax (fun hb89=>?_) (fun hb89=>?_)
     ·have hd89:=eq_of_beq hb89
      refine Ax (fun hb91=>?_) (fun hb91=>?_)
      ·have hd91:=of_decide_eq_true hb91
       refine Aq (Cw _ (Ap hc hr24c) zq9) (fun r27 hr27c=>?_)
       refine Ax (fun hb94=>?_) (fun hb94=>?_)
       ·refine Aq (E8 _) (fun r28 hr281=>?_)
        exact Ak ⟨⟨Cy,Ep⟩,(Ap hc hr27c)⟩
       ·exact Ak ⟨⟨Cy,Ep⟩,(Ap hc hr27c)⟩
      ·have hd91:=of_decide_eq_false hb91
       exact Ak ⟨⟨Cy,Ep⟩,(Ap hc hr24c)⟩
     ·exact Ak ⟨⟨Cy,Ep⟩,(Ap hc hr24c)⟩
   ·refine Ax (fun hb101=>?_) (fun hb101=>?_)
    ·have hd101:=eq_of_beq hb101
     refine Ax (fun hb103=>?_) (fun hb103=>?_)
     ·have hd103:=of_decide_eq_true hb103
      refine Aq (Cw _ (Ap hc hr24c) zq9) (fun r29 hr29c=>?_)
      refine Ax (fun hb106=>?_) (fun hb106=>?_)
      ·refine Aq (E8 _) (fun r30 hr301=>?_)
       exact Ak ⟨⟨Cy,Ep⟩,(Ap hc hr29c)⟩
      ·exact Ak ⟨⟨Cy,Ep⟩,(Ap hc hr29c)⟩
     ·have hd103:=of_decide_eq_false hb103
      exact Ak ⟨⟨Cy,Ep⟩,(Ap hc hr24c)⟩
    ·exact Ak ⟨⟨Cy,Ep⟩,(Ap hc hr24c)⟩
  ·refine Ax (fun hb113=>?_) (fun hb113=>?_)
   ·have hd113:=eq_of_beq hb113
    refine Ax (fun hb115=>?_) (fun hb115=>?_)
    ·have hd115:=of_decide_eq_true hb115
     refine Aq (Cw _ (Ap hc hr20c) zq9) (fun r31 hr31c=>?_)
     refine Ax (fun hb118=>?_) (fun hb118=>?_)
     ·refine Aq (E8 _) (fun r32 hr321=>?_)
      exact Ak ⟨⟨Cy,Ep⟩,(Ap hc hr31c)⟩
     ·exact Ak ⟨⟨Cy,Ep⟩,(Ap hc hr31c)⟩
    ·have hd115:=of_decide_eq_false hb115
     exact Ak ⟨⟨Cy,Ep⟩,(Ap hc hr20c)⟩
   ·exact Ak ⟨⟨Cy,Ep⟩,(Ap hc hr20c)⟩
end
end Go.Proofs.YtmhhajdeafijmaaGreat

/-
  That the program and the reference answer alike, in plain terms, and that the laws answer true.
-/
import Derived.Test.YtmhhajdeafijmaaGreatL42
namespace Go.Proofs.YtmhhajdeafijmaaGreat
open Go.RowKit
set_option linter.unusedVariables false
set_option linter.unusedSimpArgs false
set_option maxRecDepth 100000
set_option maxHeartbeats 16000000
noncomputable section
theorem Az8 (c:Ac):Tot (fun _=>True) (Ie c):=by rw[Ail];exact Ag trivial
theorem A8e (c:YBs):Tot (fun _=>True) (Kp c):=by rw[Ane];exact Ag trivial
theorem A5t (c:Hk):Tot (fun _=>True) (N0 c):=by rw[Azc];exact Ag trivial
theorem Ev (k:YBs):Tot (fun r=>r.1.length≤32) (Cn k (Ck [114,101,107,101,121],())):=by
 have h:=Aii k.1 Amd
 have e:Cn k (Ck [114,101,107,101,121],())=some (Ha k.1 Amd,()):=Awc k.1
 rw[e];exact Ag zq2
theorem Axy (n:YI):Tot (fun r=>r.1.length≤4) (Jv n):=by
 have e:Jv n=some (Amg n.1,()):=A2m n.1
 rw[e];exact Ag (A7s n.1)
theorem Bq (k:YBs) (r:YI) (sn:YBs) (ep seq kind:YI) (p:YBs) (h1:sn.1.length≤60000000) (h2:p.1.length≤60000000):Tot (fun q=>Ar q.1≤sn.1.length+p.1.length+100∧(wfB sn.1→wfB q.1.2.2.2.1)) (Bl k r sn ep seq kind p):=by
 have e:Bl k r sn ep seq kind p=some (Dx k.1 r.1 sn.1 ep.1 seq.1 kind.1 p.1):=A7j k.1 r.1 sn.1 ep.1 seq.1 kind.1 p.1 zq0 zq0
 have hm:=Amb k.1 (Cr r.1 sn.1 ep.1 seq.1) p.1
 rw[e]
 refine Ag ?_
 unfold Dx
 cases Hx k.1 r.1 sn.1 ep.1 seq.1 kind.1 p.1 with
 |false=>exact⟨by simp[Ar,Dp],fun _=>Gu⟩
 |true=>
  refine⟨?_,fun h=>h⟩
  have ht: ∀m,(Pe k.1 m).length≤16:=fun m=>by unfold Pe;rw[List.length_take];omega
  have:=ht (Do r.1 (kind.1,0,[],sn.1,0,[],[],ep.1,seq.1,mix k.1 (Cr r.1 sn.1 ep.1 seq.1) p.1,J1,()))
  simp only[cond_true,Ar,List.length_nil]
  omega
theorem A2r (c:Ac) (h:c.2.2.2.2.2.1.length≤4294967296):Tot (fun _=>True) (Ab4 c):=by
 unfold Ab4 Ab3
 simp only[Aj,Al,Af,Aq,List.length_nil,List.nil_append,Nat.zero_add]
 exact D0 (Ap h) (Ag trivial)
theorem Ais {b:List YB} {a0:Au} (hc:Bu b a0):Tot (fun r=>r.1.2.1.length=32∧Bu b r.2) (Oe a0):=by
 unfold Oe Aga
 simp only[Aj,Al,Af,Aq,List.length_nil,List.nil_append,Nat.zero_add]
 refine Ae (A5s _ hc zq7) (fun r1 ⟨hr11,hr1c⟩=>?_)
 refine Ae (A8d _ (by assumption)) (fun r2 hr21=>?_)
 exact Ag ⟨by assumption,(Aa hc hr1c)⟩
theorem A8f {b:List YB} {a0:Au} (hc:Bu b a0):Tot (fun r=>r.1.2.1.length≤32∧Bu b r.2) (Akn a0):=by
 unfold Akn Akm
 simp only[Aj,Al,Af,Aq,List.length_nil,List.nil_append,Nat.zero_add]
 refine Ae (Ais hc) (fun r1 ⟨hr11,hr1c⟩=>?_)
 refine Ae (Ba _ (Aa hc hr1c) zq7) (fun r2 ⟨⟨hr21,hr22⟩,hr2c⟩=>?_)
 refine Am (fun hb2=>?_) (fun hb2=>?_)
 ·have hd2:=eq_of_beq hb2
  refine Ae (A6 _ (-2) (281474976710656) (Aa hc hr2c) zq4 zq4) (fun r3 ⟨⟨hr31,hr32⟩,hr3c⟩=>?_)
  exact Ag ⟨zq8,(Aa hc hr3c)⟩
 ·refine Am (fun hb6=>?_) (fun hb6=>?_)
  ·have hd6:=eq_of_beq hb6
   refine Ae (Ba _ (Aa hc hr2c) zq7) (fun r4 ⟨⟨hr41,hr42⟩,hr4c⟩=>?_)
   refine Ae (A6 _ (-1) (4294967296) (Aa hc hr4c) zq4 zq4) (fun r5 ⟨⟨hr51,hr52⟩,hr5c⟩=>?_)
   refine Ae (Nr (P:=fun _=>True) zq7 zq7 (fun _ _=>trivial)) (fun e6 _=>?_)
   exact Ag ⟨zq8,(Aa hc hr5c)⟩
  ·refine Am (fun hb12=>?_) (fun hb12=>?_)
   ·have hd12:=eq_of_beq hb12
    refine Ae (Ba _ (Aa hc hr2c) zq7) (fun r8 ⟨⟨hr81,hr82⟩,hr8c⟩=>?_)
    refine D0 (Ap zq7) ?_
    refine D0 (Ap zq7) ?_
    exact Ag ⟨zq8,(Aa hc hr8c)⟩
   ·exact Ag ⟨zq8,(Aa hc hr2c)⟩
theorem A9y {b:List YB} {a0:Au} (hc:Bu b a0):Tot (fun r=>Bp r.1≤150∧Bu b r.2) (Apu a0):=by
 unfold Apu Apt
 simp only[Aj,Al,Af,Aq,List.length_nil,List.nil_append,Nat.zero_add]
 refine Ae (A6 _ (0) (4294967295) hc zq4 zq4) (fun r1 ⟨⟨hr11,hr12⟩,hr1c⟩=>?_)
 refine Ae (Be _ (Aa hc hr1c) zq7) (fun r2 ⟨⟨hr21,hr22⟩,hr2c⟩=>?_)
 refine Ae (Lb _ _) (fun r3 hr31=>?_)
 refine Ae (A6 _ (0) (281474976710656) (Aa hc hr2c) zq4 zq4) (fun r4 ⟨⟨hr41,hr42⟩,hr4c⟩=>?_)
 refine Ae (Ay _ (Aa hc hr4c) zq7) (fun r5 hr5c=>?_)
 refine Am (fun hb5=>?_) (fun hb5=>?_)
 ·refine Ae (Ais (Aa hc hr5c)) (fun r6 ⟨hr61,hr6c⟩=>?_)
  exact Ag ⟨zq8,(Aa hc hr6c)⟩
 ·exact Ag ⟨zq8,(Aa hc hr5c)⟩
theorem Awh {b:List YB} {a0:Au} (hc:Bu b a0):Tot (fun r=>Bp r.1≤250∧Bu b r.2) (Aas a0):=by
 unfold Aas Ako
 simp only[Aj,Al,Af,Aq,List.length_nil,List.nil_append,Nat.zero_add]
 refine Ae (A9y hc) (fun r1 ⟨hr11,hr1c⟩=>?_)
 refine Ae (Ba _ (Aa hc hr1c) zq7) (fun r2 ⟨⟨hr21,hr22⟩,hr2c⟩=>?_)
 refine Am (fun hb2=>?_) (fun hb2=>?_)
 ·have hd2:=eq_of_beq hb2
  refine Ae (A6 _ (-1) (4294967296) (Aa hc hr2c) zq4 zq4) (fun r3 ⟨⟨hr31,hr32⟩,hr3c⟩=>?_)
  exact Ag ⟨zq8,(Aa hc hr3c)⟩
 ·refine Am (fun hb6=>?_) (fun hb6=>?_)
  ·have hd6:=eq_of_beq hb6
   refine Ae (A6 _ (0) (33) (Aa hc hr2c) zq4 zq4) (fun r4 ⟨⟨hr41,hr42⟩,hr4c⟩=>?_)
   refine Ae (Be _ (Aa hc hr4c) zq7) (fun r5 ⟨⟨hr51,hr52⟩,hr5c⟩=>?_)
   exact Ag ⟨zq8,(Aa hc hr5c)⟩
  ·refine Am (fun hb11=>?_) (fun hb11=>?_)
   ·have hd11:=eq_of_beq hb11
    refine Ae (A6 _ (-1) (281474976710657) (Aa hc hr2c) zq4 zq4) (fun r6 ⟨⟨hr61,hr62⟩,hr6c⟩=>?_)
    exact Ag ⟨zq8,(Aa hc hr6c)⟩
   ·refine Am (fun hb15=>?_) (fun hb15=>?_)
    ·have hd15:=eq_of_beq hb15
     refine Ae (A8f (Aa hc hr2c)) (fun r7 ⟨hr71,hr7c⟩=>?_)
     exact Ag ⟨zq8,(Aa hc hr7c)⟩
    ·exact Ag ⟨zq8,(Aa hc hr2c)⟩
theorem A2s (a0:YI) (a1 a2:YBs) (hl:a1.1.length≤1000):Tot (fun r=>A0 r≤100∧(wfB a1.1→wfB r.2.1)) (J6 a0 a1 a2):=by
 unfold J6 Q9
 simp only[Aj,Al,Af,Aq,List.length_nil,List.nil_append,Nat.zero_add]
 refine Ae (Qx _ _ _) (fun r1 _=>?_)
 refine Am (fun hb1=>?_) (fun hb1=>?_)
 ·exact Ag ⟨zq8,fun hw=>by(dsimp only;first|exact Gu|exact hw)⟩
 ·refine Am (fun hb3=>?_) (fun hb3=>?_)
  ·exact Ag ⟨zq8,fun hw=>by(dsimp only;first|exact Gu|exact hw)⟩
  ·have hd3:=bne_eq_false_iff_eq.1 hb3
   refine Am (fun hb6=>?_) (fun hb6=>?_)
   ·exact Ag ⟨zq8,fun hw=>by(dsimp only;first|exact Gu|exact hw)⟩
   ·have hd6:=bne_eq_false_iff_eq.1 hb6
    refine D0 (Ap zq7) ?_
    refine Ae (Lb _ _) (fun r2 hr21=>?_)
    exact Ag ⟨zq8,fun hw=>by(dsimp only;first|exact Gu|exact hw)⟩
theorem Axz (a0:YI) (a1:YBs) (a2:Hk) (hl:a1.1.length≤1000):Tot (fun r=>Ao r≤1000∧wfB (C0 r).2.1) (Sx a0 a1 a2):=by
 unfold Sx Sw
 simp only[Aj,Al,Af,Aq,List.length_nil,List.nil_append,Nat.zero_add]
 refine Ae (Qx _ _ _) (fun r1 _=>?_)
 refine Am (fun hb1=>?_) (fun hb1=>?_)
 ·exact Ag ⟨zq8,Gu⟩
 ·refine Ae (A8e _) (fun r2 _=>?_)
  refine Am (fun hb4=>?_) (fun hb4=>?_)
  ·exact Ag ⟨zq8,Gu⟩
  ·refine Ae (A5t _) (fun r3 _=>?_)
   refine Am (fun hb7=>?_) (fun hb7=>?_)
   ·exact Ag ⟨zq8,Gu⟩
   ·refine D0 (Ap zq7) ?_
    exact Ag ⟨zq8,Gu⟩
theorem A9z (a0:Ac) (a1:YI) (a2:YBs) (hn:Ao a0≤100000) (hl:a2.1.length≤1000):Tot (fun r=>Ao r.1≤Ao a0+a2.1.length∧(wfB (C0 a0).2.1→wfB (C0 r.1).2.1)) (Afp a0 a1 a2):=by
 unfold Afp Apj
 simp only[Aj,Al,Af,Aq,List.length_nil,List.nil_append,Nat.zero_add]
 rw[Awe _ zq0]
 simp only[An]
 refine Ae (Az8 _) (fun r2 _=>?_)
 refine Am (fun hb3=>?_) (fun hb3=>?_)
 ·exact Ag ⟨zq8,fun hw=>hw⟩
 ·refine Ae (Qx _ _ _) (fun r3 _=>?_)
  refine Am (fun hb6=>?_) (fun hb6=>?_)
  ·exact Ag ⟨zq8,fun hw=>hw⟩
  ·refine Am (fun hb8=>?_) (fun hb8=>?_)
   ·exact Ag ⟨zq8,fun hw=>hw⟩
   ·have hd8:=bne_eq_false_iff_eq.1 hb8
    refine Am (fun hb11=>?_) (fun hb11=>?_)
    ·exact Ag ⟨zq8,fun hw=>hw⟩
    ·have hd11:=bne_eq_false_iff_eq.1 hb11
     refine D0 (Ap zq7) ?_
     refine Ae (Pk _) (fun r4 _=>?_)
     refine D0 (Ap zq7) ?_
     refine Ae (A2r _ zq7) (fun r5 _=>?_)
     exact Ag ⟨zq8,fun hw=>hw⟩
theorem Ao6 {b:List YB} {a0:Au} (a1:YI) (hc:Bu b a0):Tot (fun r=>(A0 r.1≤400∧wfB r.1.2.1)∧Bu b r.2) (Rb a0 a1):=by
 unfold Rb Acf
 simp only[Aj,Al,Af,Aq,List.length_nil,List.nil_append,Nat.zero_add]
 refine Ae (Be _ hc zq7) (fun r1 ⟨⟨hr11,hr12⟩,hr1c⟩=>?_)
 refine Ae (Be _ (Aa hc hr1c) zq7) (fun r2 ⟨⟨hr21,hr22⟩,hr2c⟩=>?_)
 refine Ae (A2s _ _ _ zq7) (fun r3 ⟨hr31,hr32⟩=>?_)
 refine Ae (A6 _ (0) (281474976710656) (Aa hc hr2c) zq4 zq4) (fun r4 ⟨⟨hr41,hr42⟩,hr4c⟩=>?_)
 refine Ae (Ay _ (Aa hc hr4c) zq7) (fun r5 hr5c=>?_)
 refine Am (fun hb5=>?_) (fun hb5=>?_)
 ·refine Ae (Ais (Aa hc hr5c)) (fun r6 ⟨hr61,hr6c⟩=>?_)
  refine Ae (Ay _ (Aa hc hr6c) zq7) (fun r7 hr7c=>?_)
  refine Am (fun hb8=>?_) (fun hb8=>?_)
  ·refine Ae (A6 _ (1) (4294967295) (Aa hc hr7c) zq4 zq4) (fun r8 ⟨⟨hr81,hr82⟩,hr8c⟩=>?_)
   refine Ae (Ev _) (fun r9 hr91=>?_)
   refine Ae (Lb _ _) (fun r10 hr101=>?_)
   refine Ae (A6 _ (-1) (1000005) (Aa hc hr8c) zq4 zq4) (fun r11 ⟨⟨hr111,hr112⟩,hr11c⟩=>?_)
   refine Am (fun hb13=>?_) (fun hb13=>?_)
   ·have hd13:=eq_of_beq hb13
    refine Am (fun hb15=>?_) (fun hb15=>?_)
    ·have hd15:=of_decide_eq_true hb15
     refine Am (fun hb17=>?_) (fun hb17=>?_)
     ·have hd17:=eq_of_beq hb17
      refine Am (fun hb19=>?_) (fun hb19=>?_)
      ·have hd19:=of_decide_eq_true hb19
       refine Ae (Ay _ (Aa hc hr11c) zq7) (fun r12 hr12c=>?_)
       refine Am (fun hb22=>?_) (fun hb22=>?_)
       ·refine Ae (Ev _) (fun r13 hr131=>?_)
        exact Ag ⟨⟨zq8,Bc⟩,(Aa hc hr12c)⟩
       ·exact Ag ⟨⟨zq8,Bc⟩,(Aa hc hr12c)⟩
      ·have hd19:=of_decide_eq_false hb19
       exact Ag ⟨⟨zq8,Bc⟩,(Aa hc hr11c)⟩
     ·exact Ag ⟨⟨zq8,Bc⟩,(Aa hc hr11c)⟩
    ·have hd15:=of_decide_eq_false hb15
     refine Am (fun hb30=>?_) (fun hb30=>?_)
     ·have hd30:=eq_of_beq hb30
      refine Am (fun hb32=>?_) (fun hb32=>?_)
      ·have hd32:=of_decide_eq_true hb32
       refine Ae (Ay _ (Aa hc hr11c) zq7) (fun r14 hr14c=>?_)
       refine Am (fun hb35=>?_) (fun hb35=>?_)
       ·refine Ae (Ev _) (fun r15 hr151=>?_)
        exact Ag ⟨⟨zq8,Bc⟩,(Aa hc hr14c)⟩
       ·exact Ag ⟨⟨zq8,Bc⟩,(Aa hc hr14c)⟩
      ·have hd32:=of_decide_eq_false hb32
       exact Ag ⟨⟨zq8,Bc⟩,(Aa hc hr11c)⟩
     ·exact Ag ⟨⟨zq8,Bc⟩,(Aa hc hr11c)⟩
   ·refine Am (fun hb42=>?_) (fun hb42=>?_)
    ·have hd42:=eq_of_beq hb42
     refine Am (fun hb44=>?_) (fun hb44=>?_)
     ·have hd44:=of_decide_eq_true hb44
      refine Ae (Ay _ (Aa hc hr11c) zq7) (fun r16 hr16c=>?_)
      refine Am (fun hb47=>?_) (fun hb47=>?_)
      ·refine Ae (Ev _) (fun r17 hr171=>?_)
       exact Ag ⟨⟨zq8,Bc⟩,(Aa hc hr16c)⟩
      ·exact Ag ⟨⟨zq8,Bc⟩,(Aa hc hr16c)⟩
     ·have hd44:=of_decide_eq_false hb44
      exact Ag ⟨⟨zq8,Bc⟩,(Aa hc hr11c)⟩
    ·exact Ag ⟨⟨zq8,Bc⟩,(Aa hc hr11c)⟩
  ·refine Am (fun hb54=>?_) (fun hb54=>?_)
   ·have hd54:=eq_of_beq hb54
    refine Am (fun hb56=>?_) (fun hb56=>?_)
    ·have hd56:=of_decide_eq_true hb56
     refine Ae (Ay _ (Aa hc hr7c) zq7) (fun r18 hr18c=>?_)
     refine Am (fun hb59=>?_) (fun hb59=>?_)
     ·refine Ae (Ev _) (fun r19 hr191=>?_)
      exact Ag ⟨⟨zq8,Bc⟩,(Aa hc hr18c)⟩
     ·exact Ag ⟨⟨zq8,Bc⟩,(Aa hc hr18c)⟩
    ·have hd56:=of_decide_eq_false hb56
     exact Ag ⟨⟨zq8,Bc⟩,(Aa hc hr7c)⟩
   ·exact Ag ⟨⟨zq8,Bc⟩,(Aa hc hr7c)⟩
 ·refine Ae (Ay _ (Aa hc hr5c) zq7) (fun r20 hr20c=>?_)
  refine Am (fun hb67=>?_) (fun hb67=>?_)
  ·refine Ae (A6 _ (1) (4294967295) (Aa hc hr20c) zq4 zq4) (fun r21 ⟨⟨hr211,hr212⟩,hr21c⟩=>?_)
   refine Ae (Ev _) (fun r22 hr221=>?_)
   refine Ae (Lb _ _) (fun r23 hr231=>?_)
   refine Ae (A6 _ (-1) (1000005) (Aa hc hr21c) zq4 zq4) (fun r24 ⟨⟨hr241,hr242⟩,hr24c⟩=>?_)
   refine Am (fun hb72=>?_) (fun hb72=>?_)
   ·have hd72:=eq_of_beq hb72
    refine Am (fun hb74=>?_) (fun hb74=>?_)
    ·have hd74:=of_decide_eq_true hb74
     refine Am (fun hb76=>?_) (fun hb76=>?_)
     ·have hd76:=eq_of_beq hb76
      refine Am (fun hb78=>?_) (fun hb78=>?_)
      ·have hd78:=of_decide_eq_true hb78
       refine Ae (Ay _ (Aa hc hr24c) zq7) (fun r25 hr25c=>?_)
       refine Am (fun hb81=>?_) (fun hb81=>?_)
       ·refine Ae (Ev _) (fun r26 hr261=>?_)
        exact Ag ⟨⟨zq8,Bc⟩,(Aa hc hr25c)⟩
       ·exact Ag ⟨⟨zq8,Bc⟩,(Aa hc hr25c)⟩
      ·have hd78:=of_decide_eq_false hb78
       exact Ag ⟨⟨zq8,Bc⟩,(Aa hc hr24c)⟩
     ·exact Ag ⟨⟨zq8,Bc⟩,(Aa hc hr24c)⟩
    ·have hd74:=of_decide_eq_false hb74
     refine Am (fun hb89=>?_) (fun hb89=>?_)
     ·have hd89:=eq_of_beq hb89
      refine Am (fun hb91=>?_) (fun hb91=>?_)
      ·have hd91:=of_decide_eq_true hb91
       refine Ae (Ay _ (Aa hc hr24c) zq7) (fun r27 hr27c=>?_)
       refine Am (fun hb94=>?_) (fun hb94=>?_)
       ·refine Ae (Ev _) (fun r28 hr281=>?_)
        exact Ag ⟨⟨zq8,Bc⟩,(Aa hc hr27c)⟩
       ·exact Ag ⟨⟨zq8,Bc⟩,(Aa hc hr27c)⟩
      ·have hd91:=of_decide_eq_false hb91
       exact Ag ⟨⟨zq8,Bc⟩,(Aa hc hr24c)⟩
     ·exact Ag ⟨⟨zq8,Bc⟩,(Aa hc hr24c)⟩
   ·refine Am (fun hb101=>?_) (fun hb101=>?_)
    ·have hd101:=eq_of_beq hb101
     refine Am (fun hb103=>?_) (fun hb103=>?_)
     ·have hd103:=of_decide_eq_true hb103
      refine Ae (Ay _ (Aa hc hr24c) zq7) (fun r29 hr29c=>?_)
      refine Am (fun hb106=>?_) (fun hb106=>?_)
      ·refine Ae (Ev _) (fun r30 hr301=>?_)
       exact Ag ⟨⟨zq8,Bc⟩,(Aa hc hr29c)⟩
      ·exact Ag ⟨⟨zq8,Bc⟩,(Aa hc hr29c)⟩
     ·have hd103:=of_decide_eq_false hb103
      exact Ag ⟨⟨zq8,Bc⟩,(Aa hc hr24c)⟩
    ·exact Ag ⟨⟨zq8,Bc⟩,(Aa hc hr24c)⟩
  ·refine Am (fun hb113=>?_) (fun hb113=>?_)
   ·have hd113:=eq_of_beq hb113
    refine Am (fun hb115=>?_) (fun hb115=>?_)
    ·have hd115:=of_decide_eq_true hb115
     refine Ae (Ay _ (Aa hc hr20c) zq7) (fun r31 hr31c=>?_)
     refine Am (fun hb118=>?_) (fun hb118=>?_)
     ·refine Ae (Ev _) (fun r32 hr321=>?_)
      exact Ag ⟨⟨zq8,Bc⟩,(Aa hc hr31c)⟩
     ·exact Ag ⟨⟨zq8,Bc⟩,(Aa hc hr31c)⟩
    ·have hd115:=of_decide_eq_false hb115
     exact Ag ⟨⟨zq8,Bc⟩,(Aa hc hr20c)⟩
   ·exact Ag ⟨⟨zq8,Bc⟩,(Aa hc hr20c)⟩
theorem A5u {b:List YB} {a0:Au} (hc:Bu b a0):Tot (fun r=>(A0 r.1≤900∧wfB r.1.2.1)∧Bu b r.2) (Agg a0):=by
 unfold Agg Agf
 simp only[Aj,Al,Af,Aq,List.length_nil,List.nil_append,Nat.zero_add]
 refine Ae (Ba _ hc zq7) (fun r1 ⟨⟨hr11,hr12⟩,hr1c⟩=>?_)
 refine Ae (Ao6 _ (Aa hc hr1c)) (fun r2 ⟨⟨hr21,hr22⟩,hr2c⟩=>?_)
 refine Ae (Ba _ (Aa hc hr2c) zq7) (fun r3 ⟨⟨hr31,hr32⟩,hr3c⟩=>?_)
 refine Am (fun hb3=>?_) (fun hb3=>?_)
 ·have hd3:=eq_of_beq hb3
  refine Ae (A6 _ (-1) (2) (Aa hc hr3c) zq4 zq4) (fun r4 ⟨⟨hr41,hr42⟩,hr4c⟩=>?_)
  exact Ag ⟨⟨zq8,Bc⟩,(Aa hc hr4c)⟩
 ·refine Am (fun hb7=>?_) (fun hb7=>?_)
  ·have hd7:=eq_of_beq hb7
   refine Ae (Be _ (Aa hc hr3c) zq7) (fun r5 ⟨⟨hr51,hr52⟩,hr5c⟩=>?_)
   exact Ag ⟨⟨zq8,Bc⟩,(Aa hc hr5c)⟩
  ·refine Am (fun hb11=>?_) (fun hb11=>?_)
   ·have hd11:=eq_of_beq hb11
    refine Ae (Awh (Aa hc hr3c)) (fun r6 ⟨hr61,hr6c⟩=>?_)
    exact Ag ⟨⟨zq8,Bc⟩,(Aa hc hr6c)⟩
   ·refine Am (fun hb15=>?_) (fun hb15=>?_)
    ·have hd15:=eq_of_beq hb15
     refine Ae (Awh (Aa hc hr3c)) (fun r7 ⟨hr71,hr7c⟩=>?_)
     exact Ag ⟨⟨zq8,Bc⟩,(Aa hc hr7c)⟩
    ·refine Am (fun hb19=>?_) (fun hb19=>?_)
     ·have hd19:=eq_of_beq hb19
      exact Ag ⟨⟨zq8,Bc⟩,(Aa hc hr3c)⟩
     ·refine Am (fun hb22=>?_) (fun hb22=>?_)
      ·have hd22:=eq_of_beq hb22
       refine Ae (A6 _ (-2) (1000006) (Aa hc hr3c) zq4 zq4) (fun r8 ⟨⟨hr81,hr82⟩,hr8c⟩=>?_)
       exact Ag ⟨⟨zq8,Bc⟩,(Aa hc hr8c)⟩
      ·refine Am (fun hb26=>?_) (fun hb26=>?_)
       ·have hd26:=eq_of_beq hb26
        refine Ae (A6 _ (0) (32) (Aa hc hr3c) zq4 zq4) (fun r9 ⟨⟨hr91,hr92⟩,hr9c⟩=>?_)
        refine Ae (Be _ (Aa hc hr9c) zq7) (fun r10 ⟨⟨hr101,hr102⟩,hr10c⟩=>?_)
        exact Ag ⟨⟨zq8,Bc⟩,(Aa hc hr10c)⟩
       ·exact Ag ⟨⟨zq8,Bc⟩,(Aa hc hr3c)⟩
theorem Az9 {b:List YB} {a0:Au} (a1:Ai) (hc:Bu b a0) (hn:A0 a1≤100000) (hw:wfB a1.2.1):Tot (fun r=>(Ar r.1≤A0 a1+200∧wfB r.1.2.2.2.1)∧Bu b r.2) (Xy a0 a1):=by
 unfold Xy Xx
 simp only[Aj,Al,Af,Aq,List.length_nil,List.nil_append,Nat.zero_add]
 refine Ae (A5p hc) (fun r1 ⟨hr11,hr1c⟩=>?_)
 refine Am (fun hb1=>?_) (fun hb1=>?_)
 ·refine Ae (Ay _ (Aa hc hr1c) zq7) (fun r2 hr2c=>?_)
  refine Am (fun hb3=>?_) (fun hb3=>?_)
  ·refine Am (fun hb4=>?_) (fun hb4=>?_)
   ·have hd4:=of_decide_eq_true hb4
    refine Ae (Ay _ (Aa hc hr2c) zq7) (fun r3 hr3c=>?_)
    refine Am (fun hb7=>?_) (fun hb7=>?_)
    ·refine Ae (Lb _ _) (fun r4 hr41=>?_)
     refine Ae (A6 _ (-1) (5) (Aa hc hr3c) zq4 zq4) (fun r5 ⟨⟨hr51,hr52⟩,hr5c⟩=>?_)
     refine Am (fun hb10=>?_) (fun hb10=>?_)
     ·have hd10:=of_decide_eq_true hb10
      refine Ae (Ay _ (Aa hc hr5c) zq7) (fun r6 hr6c=>?_)
      refine Am (fun hb13=>?_) (fun hb13=>?_)
      ·refine Ae (Bq _ _ _ _ _ _ _ zq7 zq7) (fun r7 ⟨hr71,hr72⟩=>?_)
       refine Ae (Ay _ (Aa hc hr6c) zq7) (fun r8 hr8c=>?_)
       refine Am (fun hb16=>?_) (fun hb16=>?_)
       ·refine Ae (Bj _ (Aa hc hr8c) zq7 Cy) (fun r9 ⟨⟨hr91,hr92⟩,hr9c⟩=>?_)
        exact Ag ⟨⟨zq8,Bc⟩,(Aa hc hr9c)⟩
       ·exact Ag ⟨⟨zq8,Bc⟩,(Aa hc hr8c)⟩
      ·refine Ae (Bq _ _ _ _ _ _ _ zq7 zq7) (fun r10 ⟨hr101,hr102⟩=>?_)
       refine Ae (Ay _ (Aa hc hr6c) zq7) (fun r11 hr11c=>?_)
       refine Am (fun hb22=>?_) (fun hb22=>?_)
       ·refine Ae (Bj _ (Aa hc hr11c) zq7 Cy) (fun r12 ⟨⟨hr121,hr122⟩,hr12c⟩=>?_)
        exact Ag ⟨⟨zq8,Bc⟩,(Aa hc hr12c)⟩
       ·exact Ag ⟨⟨zq8,Bc⟩,(Aa hc hr11c)⟩
     ·have hd10:=of_decide_eq_false hb10
      refine Ae (Ay _ (Aa hc hr5c) zq7) (fun r13 hr13c=>?_)
      refine Am (fun hb28=>?_) (fun hb28=>?_)
      ·refine Ae (Bq _ _ _ _ _ _ _ zq7 zq7) (fun r14 ⟨hr141,hr142⟩=>?_)
       refine Ae (Ay _ (Aa hc hr13c) zq7) (fun r15 hr15c=>?_)
       refine Am (fun hb31=>?_) (fun hb31=>?_)
       ·refine Ae (Bj _ (Aa hc hr15c) zq7 Cy) (fun r16 ⟨⟨hr161,hr162⟩,hr16c⟩=>?_)
        exact Ag ⟨⟨zq8,Bc⟩,(Aa hc hr16c)⟩
       ·exact Ag ⟨⟨zq8,Bc⟩,(Aa hc hr15c)⟩
      ·refine Ae (Bq _ _ _ _ _ _ _ zq7 zq7) (fun r17 ⟨hr171,hr172⟩=>?_)
       refine Ae (Ay _ (Aa hc hr13c) zq7) (fun r18 hr18c=>?_)
       refine Am (fun hb37=>?_) (fun hb37=>?_)
       ·refine Ae (Bj _ (Aa hc hr18c) zq7 Cy) (fun r19 ⟨⟨hr191,hr192⟩,hr19c⟩=>?_)
        exact Ag ⟨⟨zq8,Bc⟩,(Aa hc hr19c)⟩
       ·exact Ag ⟨⟨zq8,Bc⟩,(Aa hc hr18c)⟩
    ·refine Ae (A6 _ (-1) (5) (Aa hc hr3c) zq4 zq4) (fun r20 ⟨⟨hr201,hr202⟩,hr20c⟩=>?_)
     refine Am (fun hb42=>?_) (fun hb42=>?_)
     ·have hd42:=of_decide_eq_true hb42
      refine Ae (Ay _ (Aa hc hr20c) zq7) (fun r21 hr21c=>?_)
      refine Am (fun hb45=>?_) (fun hb45=>?_)
      ·refine Ae (Bq _ _ _ _ _ _ _ zq7 zq7) (fun r22 ⟨hr221,hr222⟩=>?_)
       refine Ae (Ay _ (Aa hc hr21c) zq7) (fun r23 hr23c=>?_)
       refine Am (fun hb48=>?_) (fun hb48=>?_)
       ·refine Ae (Bj _ (Aa hc hr23c) zq7 Cy) (fun r24 ⟨⟨hr241,hr242⟩,hr24c⟩=>?_)
        exact Ag ⟨⟨zq8,Bc⟩,(Aa hc hr24c)⟩
       ·exact Ag ⟨⟨zq8,Bc⟩,(Aa hc hr23c)⟩
      ·refine Ae (Bq _ _ _ _ _ _ _ zq7 zq7) (fun r25 ⟨hr251,hr252⟩=>?_)
       refine Ae (Ay _ (Aa hc hr21c) zq7) (fun r26 hr26c=>?_)
       refine Am (fun hb54=>?_) (fun hb54=>?_)
       ·refine Ae (Bj _ (Aa hc hr26c) zq7 Cy) (fun r27 ⟨⟨hr271,hr272⟩,hr27c⟩=>?_)
        exact Ag ⟨⟨zq8,Bc⟩,(Aa hc hr27c)⟩
       ·exact Ag ⟨⟨zq8,Bc⟩,(Aa hc hr26c)⟩
     ·have hd42:=of_decide_eq_false hb42
      refine Ae (Ay _ (Aa hc hr20c) zq7) (fun r28 hr28c=>?_)
      refine Am (fun hb60=>?_) (fun hb60=>?_)
      ·refine Ae (Bq _ _ _ _ _ _ _ zq7 zq7) (fun r29 ⟨hr291,hr292⟩=>?_)
       refine Ae (Ay _ (Aa hc hr28c) zq7) (fun r30 hr30c=>?_)
       refine Am (fun hb63=>?_) (fun hb63=>?_)
       ·refine Ae (Bj _ (Aa hc hr30c) zq7 Cy) (fun r31 ⟨⟨hr311,hr312⟩,hr31c⟩=>?_)
        exact Ag ⟨⟨zq8,Bc⟩,(Aa hc hr31c)⟩
       ·exact Ag ⟨⟨zq8,Bc⟩,(Aa hc hr30c)⟩
      ·refine Ae (Bq _ _ _ _ _ _ _ zq7 zq7) (fun r32 ⟨hr321,hr322⟩=>?_)
       refine Ae (Ay _ (Aa hc hr28c) zq7) (fun r33 hr33c=>?_)
       refine Am (fun hb69=>?_) (fun hb69=>?_)
       ·refine Ae (Bj _ (Aa hc hr33c) zq7 Cy) (fun r34 ⟨⟨hr341,hr342⟩,hr34c⟩=>?_)
        exact Ag ⟨⟨zq8,Bc⟩,(Aa hc hr34c)⟩
       ·exact Ag ⟨⟨zq8,Bc⟩,(Aa hc hr33c)⟩
   ·have hd4:=of_decide_eq_false hb4
    refine Ae (A6 _ (-1) (5) (Aa hc hr2c) zq4 zq4) (fun r35 ⟨⟨hr351,hr352⟩,hr35c⟩=>?_)
    refine Am (fun hb75=>?_) (fun hb75=>?_)
    ·have hd75:=of_decide_eq_true hb75
     refine Ae (Ay _ (Aa hc hr35c) zq7) (fun r36 hr36c=>?_)
     refine Am (fun hb78=>?_) (fun hb78=>?_)
     ·refine Ae (Bq _ _ _ _ _ _ _ zq7 zq7) (fun r37 ⟨hr371,hr372⟩=>?_)
      refine Ae (Ay _ (Aa hc hr36c) zq7) (fun r38 hr38c=>?_)
      refine Am (fun hb81=>?_) (fun hb81=>?_)
      ·refine Ae (Bj _ (Aa hc hr38c) zq7 Cy) (fun r39 ⟨⟨hr391,hr392⟩,hr39c⟩=>?_)
       exact Ag ⟨⟨zq8,Bc⟩,(Aa hc hr39c)⟩
      ·exact Ag ⟨⟨zq8,Bc⟩,(Aa hc hr38c)⟩
     ·refine Ae (Bq _ _ _ _ _ _ _ zq7 zq7) (fun r40 ⟨hr401,hr402⟩=>?_)
      refine Ae (Ay _ (Aa hc hr36c) zq7) (fun r41 hr41c=>?_)
      refine Am (fun hb87=>?_) (fun hb87=>?_)
      ·refine Ae (Bj _ (Aa hc hr41c) zq7 Cy) (fun r42 ⟨⟨hr421,hr422⟩,hr42c⟩=>?_)
       exact Ag ⟨⟨zq8,Bc⟩,(Aa hc hr42c)⟩
      ·exact Ag ⟨⟨zq8,Bc⟩,(Aa hc hr41c)⟩
    ·have hd75:=of_decide_eq_false hb75
     refine Ae (Ay _ (Aa hc hr35c) zq7) (fun r43 hr43c=>?_)
     refine Am (fun hb93=>?_) (fun hb93=>?_)
     ·refine Ae (Bq _ _ _ _ _ _ _ zq7 zq7) (fun r44 ⟨hr441,hr442⟩=>?_)
      refine Ae (Ay _ (Aa hc hr43c) zq7) (fun r45 hr45c=>?_)
      refine Am (fun hb96=>?_) (fun hb96=>?_)
      ·refine Ae (Bj _ (Aa hc hr45c) zq7 Cy) (fun r46 ⟨⟨hr461,hr462⟩,hr46c⟩=>?_)
       exact Ag ⟨⟨zq8,Bc⟩,(Aa hc hr46c)⟩
      ·exact Ag ⟨⟨zq8,Bc⟩,(Aa hc hr45c)⟩
     ·refine Ae (Bq _ _ _ _ _ _ _ zq7 zq7) (fun r47 ⟨hr471,hr472⟩=>?_)
      refine Ae (Ay _ (Aa hc hr43c) zq7) (fun r48 hr48c=>?_)
      refine Am (fun hb102=>?_) (fun hb102=>?_)
      ·refine Ae (Bj _ (Aa hc hr48c) zq7 Cy) (fun r49 ⟨⟨hr491,hr492⟩,hr49c⟩=>?_)
       exact Ag ⟨⟨zq8,Bc⟩,(Aa hc hr49c)⟩
      ·exact Ag ⟨⟨zq8,Bc⟩,(Aa hc hr48c)⟩
  ·refine Am (fun hb106=>?_) (fun hb106=>?_)
   ·have hd106:=of_decide_eq_true hb106
    refine Ae (Ay _ (Aa hc hr2c) zq7) (fun r50 hr50c=>?_)
    refine Am (fun hb109=>?_) (fun hb109=>?_)
    ·refine Ae (Lb _ _) (fun r51 hr511=>?_)
     refine Ae (A6 _ (-1) (5) (Aa hc hr50c) zq4 zq4) (fun r52 ⟨⟨hr521,hr522⟩,hr52c⟩=>?_)
     refine Am (fun hb112=>?_) (fun hb112=>?_)
     ·have hd112:=of_decide_eq_true hb112
      refine Ae (Ay _ (Aa hc hr52c) zq7) (fun r53 hr53c=>?_)
      refine Am (fun hb115=>?_) (fun hb115=>?_)
      ·refine Ae (Bq _ _ _ _ _ _ _ zq7 zq7) (fun r54 ⟨hr541,hr542⟩=>?_)
       refine Ae (Ay _ (Aa hc hr53c) zq7) (fun r55 hr55c=>?_)
       refine Am (fun hb118=>?_) (fun hb118=>?_)
       ·refine Ae (Bj _ (Aa hc hr55c) zq7 Cy) (fun r56 ⟨⟨hr561,hr562⟩,hr56c⟩=>?_)
        exact Ag ⟨⟨zq8,Bc⟩,(Aa hc hr56c)⟩
       ·exact Ag ⟨⟨zq8,Bc⟩,(Aa hc hr55c)⟩
      ·refine Ae (Bq _ _ _ _ _ _ _ zq7 zq7) (fun r57 ⟨hr571,hr572⟩=>?_)
       refine Ae (Ay _ (Aa hc hr53c) zq7) (fun r58 hr58c=>?_)
       refine Am (fun hb124=>?_) (fun hb124=>?_)
       ·refine Ae (Bj _ (Aa hc hr58c) zq7 Cy) (fun r59 ⟨⟨hr591,hr592⟩,hr59c⟩=>?_)
        exact Ag ⟨⟨zq8,Bc⟩,(Aa hc hr59c)⟩
       ·exact Ag ⟨⟨zq8,Bc⟩,(Aa hc hr58c)⟩
     ·have hd112:=of_decide_eq_false hb112
      refine Ae (Ay _ (Aa hc hr52c) zq7) (fun r60 hr60c=>?_)
      refine Am (fun hb130=>?_) (fun hb130=>?_)
      ·refine Ae (Bq _ _ _ _ _ _ _ zq7 zq7) (fun r61 ⟨hr611,hr612⟩=>?_)
       refine Ae (Ay _ (Aa hc hr60c) zq7) (fun r62 hr62c=>?_)
       refine Am (fun hb133=>?_) (fun hb133=>?_)
       ·refine Ae (Bj _ (Aa hc hr62c) zq7 Cy) (fun r63 ⟨⟨hr631,hr632⟩,hr63c⟩=>?_)
        exact Ag ⟨⟨zq8,Bc⟩,(Aa hc hr63c)⟩
       ·exact Ag ⟨⟨zq8,Bc⟩,(Aa hc hr62c)⟩
      ·refine Ae (Bq _ _ _ _ _ _ _ zq7 zq7) (fun r64 ⟨hr641,hr642⟩=>?_)
       refine Ae (Ay _ (Aa hc hr60c) zq7) (fun r65 hr65c=>?_)
       refine Am (fun hb139=>?_) (fun hb139=>?_)
       ·refine Ae (Bj _ (Aa hc hr65c) zq7 Cy) (fun r66 ⟨⟨hr661,hr662⟩,hr66c⟩=>?_)
        exact Ag ⟨⟨zq8,Bc⟩,(Aa hc hr66c)⟩
       ·exact Ag ⟨⟨zq8,Bc⟩,(Aa hc hr65c)⟩
    ·refine Ae (A6 _ (-1) (5) (Aa hc hr50c) zq4 zq4) (fun r67 ⟨⟨hr671,hr672⟩,hr67c⟩=>?_)
     refine Am (fun hb144=>?_) (fun hb144=>?_)
     ·have hd144:=of_decide_eq_true hb144
      refine Ae (Ay _ (Aa hc hr67c) zq7) (fun r68 hr68c=>?_)
      refine Am (fun hb147=>?_) (fun hb147=>?_)
      ·refine Ae (Bq _ _ _ _ _ _ _ zq7 zq7) (fun r69 ⟨hr691,hr692⟩=>?_)
       refine Ae (Ay _ (Aa hc hr68c) zq7) (fun r70 hr70c=>?_)
       refine Am (fun hb150=>?_) (fun hb150=>?_)
       ·refine Ae (Bj _ (Aa hc hr70c) zq7 Cy) (fun r71 ⟨⟨hr711,hr712⟩,hr71c⟩=>?_)
        exact Ag ⟨⟨zq8,Bc⟩,(Aa hc hr71c)⟩
       ·exact Ag ⟨⟨zq8,Bc⟩,(Aa hc hr70c)⟩
      ·refine Ae (Bq _ _ _ _ _ _ _ zq7 zq7) (fun r72 ⟨hr721,hr722⟩=>?_)
       refine Ae (Ay _ (Aa hc hr68c) zq7) (fun r73 hr73c=>?_)
       refine Am (fun hb156=>?_) (fun hb156=>?_)
       ·refine Ae (Bj _ (Aa hc hr73c) zq7 Cy) (fun r74 ⟨⟨hr741,hr742⟩,hr74c⟩=>?_)
        exact Ag ⟨⟨zq8,Bc⟩,(Aa hc hr74c)⟩
       ·exact Ag ⟨⟨zq8,Bc⟩,(Aa hc hr73c)⟩
     ·have hd144:=of_decide_eq_false hb144
      refine Ae (Ay _ (Aa hc hr67c) zq7) (fun r75 hr75c=>?_)
      refine Am (fun hb162=>?_) (fun hb162=>?_)
      ·refine Ae (Bq _ _ _ _ _ _ _ zq7 zq7) (fun r76 ⟨hr761,hr762⟩=>?_)
       refine Ae (Ay _ (Aa hc hr75c) zq7) (fun r77 hr77c=>?_)
       refine Am (fun hb165=>?_) (fun hb165=>?_)
       ·refine Ae (Bj _ (Aa hc hr77c) zq7 Cy) (fun r78 ⟨⟨hr781,hr782⟩,hr78c⟩=>?_)
        exact Ag ⟨⟨zq8,Bc⟩,(Aa hc hr78c)⟩
       ·exact Ag ⟨⟨zq8,Bc⟩,(Aa hc hr77c)⟩
      ·refine Ae (Bq _ _ _ _ _ _ _ zq7 zq7) (fun r79 ⟨hr791,hr792⟩=>?_)
       refine Ae (Ay _ (Aa hc hr75c) zq7) (fun r80 hr80c=>?_)
       refine Am (fun hb171=>?_) (fun hb171=>?_)
       ·refine Ae (Bj _ (Aa hc hr80c) zq7 Cy) (fun r81 ⟨⟨hr811,hr812⟩,hr81c⟩=>?_)
        exact Ag ⟨⟨zq8,Bc⟩,(Aa hc hr81c)⟩
       ·exact Ag ⟨⟨zq8,Bc⟩,(Aa hc hr80c)⟩
   ·have hd106:=of_decide_eq_false hb106
    refine Ae (A6 _ (-1) (5) (Aa hc hr2c) zq4 zq4) (fun r82 ⟨⟨hr821,hr822⟩,hr82c⟩=>?_)
    refine Am (fun hb177=>?_) (fun hb177=>?_)
    ·have hd177:=of_decide_eq_true hb177
     refine Ae (Ay _ (Aa hc hr82c) zq7) (fun r83 hr83c=>?_)
     refine Am (fun hb180=>?_) (fun hb180=>?_)
     ·refine Ae (Bq _ _ _ _ _ _ _ zq7 zq7) (fun r84 ⟨hr841,hr842⟩=>?_)
      refine Ae (Ay _ (Aa hc hr83c) zq7) (fun r85 hr85c=>?_)
      refine Am (fun hb183=>?_) (fun hb183=>?_)
      ·refine Ae (Bj _ (Aa hc hr85c) zq7 Cy) (fun r86 ⟨⟨hr861,hr862⟩,hr86c⟩=>?_)
       exact Ag ⟨⟨zq8,Bc⟩,(Aa hc hr86c)⟩
      ·exact Ag ⟨⟨zq8,Bc⟩,(Aa hc hr85c)⟩
     ·refine Ae (Bq _ _ _ _ _ _ _ zq7 zq7) (fun r87 ⟨hr871,hr872⟩=>?_)
      refine Ae (Ay _ (Aa hc hr83c) zq7) (fun r88 hr88c=>?_)
      refine Am (fun hb189=>?_) (fun hb189=>?_)
      ·refine Ae (Bj _ (Aa hc hr88c) zq7 Cy) (fun r89 ⟨⟨hr891,hr892⟩,hr89c⟩=>?_)
       exact Ag ⟨⟨zq8,Bc⟩,(Aa hc hr89c)⟩
      ·exact Ag ⟨⟨zq8,Bc⟩,(Aa hc hr88c)⟩
    ·have hd177:=of_decide_eq_false hb177
     refine Ae (Ay _ (Aa hc hr82c) zq7) (fun r90 hr90c=>?_)
     refine Am (fun hb195=>?_) (fun hb195=>?_)
     ·refine Ae (Bq _ _ _ _ _ _ _ zq7 zq7) (fun r91 ⟨hr911,hr912⟩=>?_)
      refine Ae (Ay _ (Aa hc hr90c) zq7) (fun r92 hr92c=>?_)
      refine Am (fun hb198=>?_) (fun hb198=>?_)
      ·refine Ae (Bj _ (Aa hc hr92c) zq7 Cy) (fun r93 ⟨⟨hr931,hr932⟩,hr93c⟩=>?_)
       exact Ag ⟨⟨zq8,Bc⟩,(Aa hc hr93c)⟩
      ·exact Ag ⟨⟨zq8,Bc⟩,(Aa hc hr92c)⟩
     ·refine Ae (Bq _ _ _ _ _ _ _ zq7 zq7) (fun r94 ⟨hr941,hr942⟩=>?_)
      refine Ae (Ay _ (Aa hc hr90c) zq7) (fun r95 hr95c=>?_)
      refine Am (fun hb204=>?_) (fun hb204=>?_)
      ·refine Ae (Bj _ (Aa hc hr95c) zq7 Cy) (fun r96 ⟨⟨hr961,hr962⟩,hr96c⟩=>?_)
       exact Ag ⟨⟨zq8,Bc⟩,(Aa hc hr96c)⟩
      ·exact Ag ⟨⟨zq8,Bc⟩,(Aa hc hr95c)⟩
 ·refine Am (fun hb208=>?_) (fun hb208=>?_)
  ·have hd208:=of_decide_eq_true hb208
   refine Ae (Ay _ (Aa hc hr1c) zq7) (fun r97 hr97c=>?_)
   refine Am (fun hb211=>?_) (fun hb211=>?_)
   ·refine Ae (Lb _ _) (fun r98 hr981=>?_)
    refine Ae (A6 _ (-1) (5) (Aa hc hr97c) zq4 zq4) (fun r99 ⟨⟨hr991,hr992⟩,hr99c⟩=>?_)
    refine Am (fun hb214=>?_) (fun hb214=>?_)
    ·have hd214:=of_decide_eq_true hb214
     refine Ae (Ay _ (Aa hc hr99c) zq7) (fun r100 hr100c=>?_)
     refine Am (fun hb217=>?_) (fun hb217=>?_)
     ·refine Ae (Bq _ _ _ _ _ _ _ zq7 zq7) (fun r101 ⟨hr1011,hr1012⟩=>?_)
      refine Ae (Ay _ (Aa hc hr100c) zq7) (fun r102 hr102c=>?_)
      refine Am (fun hb220=>?_) (fun hb220=>?_)
      ·refine Ae (Bj _ (Aa hc hr102c) zq7 Cy) (fun r103 ⟨⟨hr1031,hr1032⟩,hr103c⟩=>?_)
       exact Ag ⟨⟨zq8,Bc⟩,(Aa hc hr103c)⟩
      ·exact Ag ⟨⟨zq8,Bc⟩,(Aa hc hr102c)⟩
     ·refine Ae (Bq _ _ _ _ _ _ _ zq7 zq7) (fun r104 ⟨hr1041,hr1042⟩=>?_)
      refine Ae (Ay _ (Aa hc hr100c) zq7) (fun r105 hr105c=>?_)
      refine Am (fun hb226=>?_) (fun hb226=>?_)
      ·refine Ae (Bj _ (Aa hc hr105c) zq7 Cy) (fun r106 ⟨⟨hr1061,hr1062⟩,hr106c⟩=>?_)
       exact Ag ⟨⟨zq8,Bc⟩,(Aa hc hr106c)⟩
      ·exact Ag ⟨⟨zq8,Bc⟩,(Aa hc hr105c)⟩
    ·have hd214:=of_decide_eq_false hb214
     refine Ae (Ay _ (Aa hc hr99c) zq7) (fun r107 hr107c=>?_)
     refine Am (fun hb232=>?_) (fun hb232=>?_)
     ·refine Ae (Bq _ _ _ _ _ _ _ zq7 zq7) (fun r108 ⟨hr1081,hr1082⟩=>?_)
      refine Ae (Ay _ (Aa hc hr107c) zq7) (fun r109 hr109c=>?_)
      refine Am (fun hb235=>?_) (fun hb235=>?_)
      ·refine Ae (Bj _ (Aa hc hr109c) zq7 Cy) (fun r110 ⟨⟨hr1101,hr1102⟩,hr110c⟩=>?_)
       exact Ag ⟨⟨zq8,Bc⟩,(Aa hc hr110c)⟩
      ·exact Ag ⟨⟨zq8,Bc⟩,(Aa hc hr109c)⟩
     ·refine Ae (Bq _ _ _ _ _ _ _ zq7 zq7) (fun r111 ⟨hr1111,hr1112⟩=>?_)
      refine Ae (Ay _ (Aa hc hr107c) zq7) (fun r112 hr112c=>?_)
      refine Am (fun hb241=>?_) (fun hb241=>?_)
      ·refine Ae (Bj _ (Aa hc hr112c) zq7 Cy) (fun r113 ⟨⟨hr1131,hr1132⟩,hr113c⟩=>?_)
       exact Ag ⟨⟨zq8,Bc⟩,(Aa hc hr113c)⟩
      ·exact Ag ⟨⟨zq8,Bc⟩,(Aa hc hr112c)⟩
   ·refine Ae (A6 _ (-1) (5) (Aa hc hr97c) zq4 zq4) (fun r114 ⟨⟨hr1141,hr1142⟩,hr114c⟩=>?_)
    refine Am (fun hb246=>?_) (fun hb246=>?_)
    ·have hd246:=of_decide_eq_true hb246
     refine Ae (Ay _ (Aa hc hr114c) zq7) (fun r115 hr115c=>?_)
     refine Am (fun hb249=>?_) (fun hb249=>?_)
     ·refine Ae (Bq _ _ _ _ _ _ _ zq7 zq7) (fun r116 ⟨hr1161,hr1162⟩=>?_)
      refine Ae (Ay _ (Aa hc hr115c) zq7) (fun r117 hr117c=>?_)
      refine Am (fun hb252=>?_) (fun hb252=>?_)
      ·refine Ae (Bj _ (Aa hc hr117c) zq7 Cy) (fun r118 ⟨⟨hr1181,hr1182⟩,hr118c⟩=>?_)
       exact Ag ⟨⟨zq8,Bc⟩,(Aa hc hr118c)⟩
      ·exact Ag ⟨⟨zq8,Bc⟩,(Aa hc hr117c)⟩
     ·refine Ae (Bq _ _ _ _ _ _ _ zq7 zq7) (fun r119 ⟨hr1191,hr1192⟩=>?_)
      refine Ae (Ay _ (Aa hc hr115c) zq7) (fun r120 hr120c=>?_)
      refine Am (fun hb258=>?_) (fun hb258=>?_)
      ·refine Ae (Bj _ (Aa hc hr120c) zq7 Cy) (fun r121 ⟨⟨hr1211,hr1212⟩,hr121c⟩=>?_)
       exact Ag ⟨⟨zq8,Bc⟩,(Aa hc hr121c)⟩
      ·exact Ag ⟨⟨zq8,Bc⟩,(Aa hc hr120c)⟩
    ·have hd246:=of_decide_eq_false hb246
     refine Ae (Ay _ (Aa hc hr114c) zq7) (fun r122 hr122c=>?_)
     refine Am (fun hb264=>?_) (fun hb264=>?_)
     ·refine Ae (Bq _ _ _ _ _ _ _ zq7 zq7) (fun r123 ⟨hr1231,hr1232⟩=>?_)
      refine Ae (Ay _ (Aa hc hr122c) zq7) (fun r124 hr124c=>?_)
      refine Am (fun hb267=>?_) (fun hb267=>?_)
      ·refine Ae (Bj _ (Aa hc hr124c) zq7 Cy) (fun r125 ⟨⟨hr1251,hr1252⟩,hr125c⟩=>?_)
       exact Ag ⟨⟨zq8,Bc⟩,(Aa hc hr125c)⟩
      ·exact Ag ⟨⟨zq8,Bc⟩,(Aa hc hr124c)⟩
     ·refine Ae (Bq _ _ _ _ _ _ _ zq7 zq7) (fun r126 ⟨hr1261,hr1262⟩=>?_)
      refine Ae (Ay _ (Aa hc hr122c) zq7) (fun r127 hr127c=>?_)
      refine Am (fun hb273=>?_) (fun hb273=>?_)
      ·refine Ae (Bj _ (Aa hc hr127c) zq7 Cy) (fun r128 ⟨⟨hr1281,hr1282⟩,hr128c⟩=>?_)
       exact Ag ⟨⟨zq8,Bc⟩,(Aa hc hr128c)⟩
      ·exact Ag ⟨⟨zq8,Bc⟩,(Aa hc hr127c)⟩
  ·have hd208:=of_decide_eq_false hb208
   refine Ae (A6 _ (-1) (5) (Aa hc hr1c) zq4 zq4) (fun r129 ⟨⟨hr1291,hr1292⟩,hr129c⟩=>?_)
   refine Am (fun hb279=>?_) (fun hb279=>?_)
   ·have hd279:=of_decide_eq_true hb279
    refine Ae (Ay _ (Aa hc hr129c) zq7) (fun r130 hr130c=>?_)
    refine Am (fun hb282=>?_) (fun hb282=>?_)
    ·refine Ae (Bq _ _ _ _ _ _ _ zq7 zq7) (fun r131 ⟨hr1311,hr1312⟩=>?_)
     refine Ae (Ay _ (Aa hc hr130c) zq7) (fun r132 hr132c=>?_)
     refine Am (fun hb285=>?_) (fun hb285=>?_)
     ·refine Ae (Bj _ (Aa hc hr132c) zq7 Cy) (fun r133 ⟨⟨hr1331,hr1332⟩,hr133c⟩=>?_)
      exact Ag ⟨⟨zq8,Bc⟩,(Aa hc hr133c)⟩
     ·exact Ag ⟨⟨zq8,Bc⟩,(Aa hc hr132c)⟩
    ·refine Ae (Bq _ _ _ _ _ _ _ zq7 zq7) (fun r134 ⟨hr1341,hr1342⟩=>?_)
     refine Ae (Ay _ (Aa hc hr130c) zq7) (fun r135 hr135c=>?_)
     refine Am (fun hb291=>?_) (fun hb291=>?_)
     ·refine Ae (Bj _ (Aa hc hr135c) zq7 Cy) (fun r136 ⟨⟨hr1361,hr1362⟩,hr136c⟩=>?_)
      exact Ag ⟨⟨zq8,Bc⟩,(Aa hc hr136c)⟩
     ·exact Ag ⟨⟨zq8,Bc⟩,(Aa hc hr135c)⟩
   ·have hd279:=of_decide_eq_false hb279
    refine Ae (Ay _ (Aa hc hr129c) zq7) (fun r137 hr137c=>?_)
    refine Am (fun hb297=>?_) (fun hb297=>?_)
    ·refine Ae (Bq _ _ _ _ _ _ _ zq7 zq7) (fun r138 ⟨hr1381,hr1382⟩=>?_)
     refine Ae (Ay _ (Aa hc hr137c) zq7) (fun r139 hr139c=>?_)
     refine Am (fun hb300=>?_) (fun hb300=>?_)
     ·refine Ae (Bj _ (Aa hc hr139c) zq7 Cy) (fun r140 ⟨⟨hr1401,hr1402⟩,hr140c⟩=>?_)
      exact Ag ⟨⟨zq8,Bc⟩,(Aa hc hr140c)⟩
     ·exact Ag ⟨⟨zq8,Bc⟩,(Aa hc hr139c)⟩
    ·refine Ae (Bq _ _ _ _ _ _ _ zq7 zq7) (fun r141 ⟨hr1411,hr1412⟩=>?_)
     refine Ae (Ay _ (Aa hc hr137c) zq7) (fun r142 hr142c=>?_)
     refine Am (fun hb306=>?_) (fun hb306=>?_)
     ·refine Ae (Bj _ (Aa hc hr142c) zq7 Cy) (fun r143 ⟨⟨hr1431,hr1432⟩,hr143c⟩=>?_)
      exact Ag ⟨⟨zq8,Bc⟩,(Aa hc hr143c)⟩
     ·exact Ag ⟨⟨zq8,Bc⟩,(Aa hc hr142c)⟩
end
end Go.Proofs.YtmhhajdeafijmaaGreat

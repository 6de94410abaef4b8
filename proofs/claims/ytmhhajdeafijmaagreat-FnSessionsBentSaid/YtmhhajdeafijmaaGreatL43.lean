/-
  That the program and the reference answer alike, in plain terms, and that the laws answer true.
-/
import Derived.Test.YtmhhajdeafijmaaGreatL42
namespace Go.Proofs.YtmhhajdeafijmaaGreat
open Go.RowKit
set_option linter.unusedVariables false
set_option linter.unusedSimpArgs false
set_option maxRecDepth 100000
set_option maxHeartbeats 16000000
noncomputable section
theorem A5v (c:YBs):Tot (fun _=>True) (Ol c):=by rw[Asm];exact Ae trivial
theorem A3b (c:Bw):Tot (fun _=>True) (H5 c):=by rw[W0];exact Ae trivial
theorem E7 (k:YBs):Tot (fun r=>r.1.length≤32) (Cr k (C8 [114,101,107,101,121],())):=by
 have h:=Aql k.1 Td
 have e:Cr k (C8 [114,101,107,101,121],())=some (F9 k.1 Td,()):=Ajy k.1
 rw[e];exact Ae zq2
theorem Ue (n:YI):Tot (fun r=>r.1.length≤4) (Dj n):=by
 have e:Dj n=some (Nn n.1,()):=Aa8 n.1
 rw[e];exact Ae (At5 n.1)
theorem Bt (k:YBs) (r:YI) (sn:YBs) (ep seq kind:YI) (p:YBs) (h1:sn.1.length≤60000000) (h2:p.1.length≤60000000):Tot (fun q=>Aq q.1≤sn.1.length+p.1.length+100∧(wfB sn.1→wfB q.1.2.2.2.1)) (Bc k r sn ep seq kind p):=by
 have e:Bc k r sn ep seq kind p=some (Fo k.1 r.1 sn.1 ep.1 seq.1 kind.1 p.1):=A47 k.1 r.1 sn.1 ep.1 seq.1 kind.1 p.1 zq0 zq0
 have hm:=Ajw k.1 (Df r.1 sn.1 ep.1 seq.1) p.1
 rw[e]
 refine Ae ?_
 unfold Fo
 cases Ly k.1 r.1 sn.1 ep.1 seq.1 kind.1 p.1 with
 |false=>exact⟨by simp[Aq,Ez],fun _=>Fu⟩
 |true=>
  refine⟨?_,fun h=>h⟩
  have ht: ∀m,(W4 k.1 m).length≤16:=fun m=>by unfold W4;rw[List.length_take];omega
  have:=ht (Cw r.1 (kind.1,0,[],sn.1,0,[],[],ep.1,seq.1,mix k.1 (Df r.1 sn.1 ep.1 seq.1) p.1,Qq,()))
  simp only[cond_true,Aq,List.length_nil]
  omega
theorem Af4 {b:List YB} {a0:Av} (hc:Bx b a0):Tot (fun r=>r.1.2.1.length=32∧Bx b r.2) (Pi a0):=by
 unfold Pi Ade
 simp only[Af,Ah,Ac,An,List.length_nil,List.nil_append,Nat.zero_add]
 refine Ad (A3a _ hc zq7) (fun r1 ⟨hr11,hr1c⟩=>?_)
 refine Ad (A5u _ (by assumption)) (fun r2 hr21=>?_)
 exact Ae ⟨by assumption,(Aa hc hr1c)⟩
theorem A5w {b:List YB} {a0:Av} (hc:Bx b a0):Tot (fun r=>r.1.2.1.length≤32∧Bx b r.2) (Ah5 a0):=by
 unfold Ah5 Ah4
 simp only[Af,Ah,Ac,An,List.length_nil,List.nil_append,Nat.zero_add]
 refine Ad (Af4 hc) (fun r1 ⟨hr11,hr1c⟩=>?_)
 refine Ad (Bb _ (Aa hc hr1c) zq7) (fun r2 ⟨⟨hr21,hr22⟩,hr2c⟩=>?_)
 refine Ak (fun hb2=>?_) (fun hb2=>?_)
 ·have hd2:=eq_of_beq hb2
  refine Ad (Bh _ (-2) (281474976710656) (Aa hc hr2c) zq3 zq3) (fun r3 ⟨⟨hr31,hr32⟩,hr3c⟩=>?_)
  exact Ae ⟨zq8,(Aa hc hr3c)⟩
 ·refine Ak (fun hb6=>?_) (fun hb6=>?_)
  ·have hd6:=eq_of_beq hb6
   refine Ad (Bb _ (Aa hc hr2c) zq7) (fun r4 ⟨⟨hr41,hr42⟩,hr4c⟩=>?_)
   refine Ad (Bh _ (-1) (4294967296) (Aa hc hr4c) zq3 zq3) (fun r5 ⟨⟨hr51,hr52⟩,hr5c⟩=>?_)
   refine Ad (Mv (P:=fun _=>True) zq7 zq7 (fun _ _=>trivial)) (fun e6 _=>?_)
   exact Ae ⟨zq8,(Aa hc hr5c)⟩
  ·refine Ak (fun hb12=>?_) (fun hb12=>?_)
   ·have hd12:=eq_of_beq hb12
    refine Ad (Bb _ (Aa hc hr2c) zq7) (fun r8 ⟨⟨hr81,hr82⟩,hr8c⟩=>?_)
    refine Eg (Al zq7) ?_
    refine Eg (Al zq7) ?_
    exact Ae ⟨zq8,(Aa hc hr8c)⟩
   ·exact Ae ⟨zq8,(Aa hc hr2c)⟩
theorem A7i {b:List YB} {a0:Av} (hc:Bx b a0):Tot (fun r=>Bs r.1≤150∧Bx b r.2) (Am1 a0):=by
 unfold Am1 Am0
 simp only[Af,Ah,Ac,An,List.length_nil,List.nil_append,Nat.zero_add]
 refine Ad (Bh _ (0) (4294967295) hc zq3 zq3) (fun r1 ⟨⟨hr11,hr12⟩,hr1c⟩=>?_)
 refine Ad (Cn _ (Aa hc hr1c) zq7) (fun r2 ⟨⟨hr21,hr22⟩,hr2c⟩=>?_)
 refine Ad (L3 _ _) (fun r3 hr31=>?_)
 refine Ad (Bh _ (0) (281474976710656) (Aa hc hr2c) zq3 zq3) (fun r4 ⟨⟨hr41,hr42⟩,hr4c⟩=>?_)
 refine Ad (Aw _ (Aa hc hr4c) zq7) (fun r5 hr5c=>?_)
 refine Ak (fun hb5=>?_) (fun hb5=>?_)
 ·refine Ad (Af4 (Aa hc hr5c)) (fun r6 ⟨hr61,hr6c⟩=>?_)
  exact Ae ⟨zq8,(Aa hc hr6c)⟩
 ·exact Ae ⟨zq8,(Aa hc hr5c)⟩
theorem At9 {b:List YB} {a0:Av} (hc:Bx b a0):Tot (fun r=>Bs r.1≤250∧Bx b r.2) (Xm a0):=by
 unfold Xm Ah6
 simp only[Af,Ah,Ac,An,List.length_nil,List.nil_append,Nat.zero_add]
 refine Ad (A7i hc) (fun r1 ⟨hr11,hr1c⟩=>?_)
 refine Ad (Bb _ (Aa hc hr1c) zq7) (fun r2 ⟨⟨hr21,hr22⟩,hr2c⟩=>?_)
 refine Ak (fun hb2=>?_) (fun hb2=>?_)
 ·have hd2:=eq_of_beq hb2
  refine Ad (Bh _ (-1) (4294967296) (Aa hc hr2c) zq3 zq3) (fun r3 ⟨⟨hr31,hr32⟩,hr3c⟩=>?_)
  exact Ae ⟨zq8,(Aa hc hr3c)⟩
 ·refine Ak (fun hb6=>?_) (fun hb6=>?_)
  ·have hd6:=eq_of_beq hb6
   refine Ad (Bh _ (0) (33) (Aa hc hr2c) zq3 zq3) (fun r4 ⟨⟨hr41,hr42⟩,hr4c⟩=>?_)
   refine Ad (Cn _ (Aa hc hr4c) zq7) (fun r5 ⟨⟨hr51,hr52⟩,hr5c⟩=>?_)
   exact Ae ⟨zq8,(Aa hc hr5c)⟩
  ·refine Ak (fun hb11=>?_) (fun hb11=>?_)
   ·have hd11:=eq_of_beq hb11
    refine Ad (Bh _ (-1) (281474976710657) (Aa hc hr2c) zq3 zq3) (fun r6 ⟨⟨hr61,hr62⟩,hr6c⟩=>?_)
    exact Ae ⟨zq8,(Aa hc hr6c)⟩
   ·refine Ak (fun hb15=>?_) (fun hb15=>?_)
    ·have hd15:=eq_of_beq hb15
     refine Ad (A5w (Aa hc hr2c)) (fun r7 ⟨hr71,hr7c⟩=>?_)
     exact Ae ⟨zq8,(Aa hc hr7c)⟩
    ·exact Ae ⟨zq8,(Aa hc hr2c)⟩
theorem Aml (a0:YI) (a1 a2:YBs) (hl:a1.1.length≤1000):Tot (fun r=>Ax r≤100∧(wfB a1.1→wfB r.2.1)) (R6 a0 a1 a2):=by
 unfold R6 Zt
 simp only[Af,Ah,Ac,An,List.length_nil,List.nil_append,Nat.zero_add]
 refine Ad (Ax0 _ _ _) (fun r1 _=>?_)
 refine Ak (fun hb1=>?_) (fun hb1=>?_)
 ·exact Ae ⟨zq8,fun hw=>by(dsimp only;first|exact Fu|exact hw)⟩
 ·refine Ak (fun hb3=>?_) (fun hb3=>?_)
  ·exact Ae ⟨zq8,fun hw=>by(dsimp only;first|exact Fu|exact hw)⟩
  ·have hd3:=bne_eq_false_iff_eq.1 hb3
   refine Ak (fun hb6=>?_) (fun hb6=>?_)
   ·exact Ae ⟨zq8,fun hw=>by(dsimp only;first|exact Fu|exact hw)⟩
   ·have hd6:=bne_eq_false_iff_eq.1 hb6
    refine Eg (Al zq7) ?_
    refine Ad (L3 _ _) (fun r2 hr21=>?_)
    exact Ae ⟨zq8,fun hw=>by(dsimp only;first|exact Fu|exact hw)⟩
theorem Amm {b:List YB} {a0:Av} (a1:YI) (hc:Bx b a0):Tot (fun r=>(Ax r.1≤400∧wfB r.1.2.1)∧Bx b r.2) (R8 a0 a1):=by
 unfold R8 Zx
 simp only[Af,Ah,Ac,An,List.length_nil,List.nil_append,Nat.zero_add]
 refine Ad (Cn _ hc zq7) (fun r1 ⟨⟨hr11,hr12⟩,hr1c⟩=>?_)
 refine Ad (Cn _ (Aa hc hr1c) zq7) (fun r2 ⟨⟨hr21,hr22⟩,hr2c⟩=>?_)
 refine Ad (Aml _ _ _ zq7) (fun r3 ⟨hr31,hr32⟩=>?_)
 refine Ad (Bh _ (0) (281474976710656) (Aa hc hr2c) zq3 zq3) (fun r4 ⟨⟨hr41,hr42⟩,hr4c⟩=>?_)
 refine Ad (Aw _ (Aa hc hr4c) zq7) (fun r5 hr5c=>?_)
 refine Ak (fun hb5=>?_) (fun hb5=>?_)
 ·refine Ad (Af4 (Aa hc hr5c)) (fun r6 ⟨hr61,hr6c⟩=>?_)
  refine Ad (Aw _ (Aa hc hr6c) zq7) (fun r7 hr7c=>?_)
  refine Ak (fun hb8=>?_) (fun hb8=>?_)
  ·refine Ad (Bh _ (1) (4294967295) (Aa hc hr7c) zq3 zq3) (fun r8 ⟨⟨hr81,hr82⟩,hr8c⟩=>?_)
   refine Ad (E7 _) (fun r9 hr91=>?_)
   refine Ad (L3 _ _) (fun r10 hr101=>?_)
   refine Ad (Bh _ (-1) (1000005) (Aa hc hr8c) zq3 zq3) (fun r11 ⟨⟨hr111,hr112⟩,hr11c⟩=>?_)
   refine Ak (fun hb13=>?_) (fun hb13=>?_)
   ·have hd13:=eq_of_beq hb13
    refine Ak (fun hb15=>?_) (fun hb15=>?_)
    ·have hd15:=of_decide_eq_true hb15
     refine Ak (fun hb17=>?_) (fun hb17=>?_)
     ·have hd17:=eq_of_beq hb17
      refine Ak (fun hb19=>?_) (fun hb19=>?_)
      ·have hd19:=of_decide_eq_true hb19
       refine Ad (Aw _ (Aa hc hr11c) zq7) (fun r12 hr12c=>?_)
       refine Ak (fun hb22=>?_) (fun hb22=>?_)
       ·refine Ad (E7 _) (fun r13 hr131=>?_)
        exact Ae ⟨⟨zq8,Ba⟩,(Aa hc hr12c)⟩
       ·exact Ae ⟨⟨zq8,Ba⟩,(Aa hc hr12c)⟩
      ·have hd19:=of_decide_eq_false hb19
       exact Ae ⟨⟨zq8,Ba⟩,(Aa hc hr11c)⟩
     ·exact Ae ⟨⟨zq8,Ba⟩,(Aa hc hr11c)⟩
    ·have hd15:=of_decide_eq_false hb15
     refine Ak (fun hb30=>?_) (fun hb30=>?_)
     ·have hd30:=eq_of_beq hb30
      refine Ak (fun hb32=>?_) (fun hb32=>?_)
      ·have hd32:=of_decide_eq_true hb32
       refine Ad (Aw _ (Aa hc hr11c) zq7) (fun r14 hr14c=>?_)
       refine Ak (fun hb35=>?_) (fun hb35=>?_)
       ·refine Ad (E7 _) (fun r15 hr151=>?_)
        exact Ae ⟨⟨zq8,Ba⟩,(Aa hc hr14c)⟩
       ·exact Ae ⟨⟨zq8,Ba⟩,(Aa hc hr14c)⟩
      ·have hd32:=of_decide_eq_false hb32
       exact Ae ⟨⟨zq8,Ba⟩,(Aa hc hr11c)⟩
     ·exact Ae ⟨⟨zq8,Ba⟩,(Aa hc hr11c)⟩
   ·refine Ak (fun hb42=>?_) (fun hb42=>?_)
    ·have hd42:=eq_of_beq hb42
     refine Ak (fun hb44=>?_) (fun hb44=>?_)
     ·have hd44:=of_decide_eq_true hb44
      refine Ad (Aw _ (Aa hc hr11c) zq7) (fun r16 hr16c=>?_)
      refine Ak (fun hb47=>?_) (fun hb47=>?_)
      ·refine Ad (E7 _) (fun r17 hr171=>?_)
       exact Ae ⟨⟨zq8,Ba⟩,(Aa hc hr16c)⟩
      ·exact Ae ⟨⟨zq8,Ba⟩,(Aa hc hr16c)⟩
     ·have hd44:=of_decide_eq_false hb44
      exact Ae ⟨⟨zq8,Ba⟩,(Aa hc hr11c)⟩
    ·exact Ae ⟨⟨zq8,Ba⟩,(Aa hc hr11c)⟩
  ·refine Ak (fun hb54=>?_) (fun hb54=>?_)
   ·have hd54:=eq_of_beq hb54
    refine Ak (fun hb56=>?_) (fun hb56=>?_)
    ·have hd56:=of_decide_eq_true hb56
     refine Ad (Aw _ (Aa hc hr7c) zq7) (fun r18 hr18c=>?_)
     refine Ak (fun hb59=>?_) (fun hb59=>?_)
     ·refine Ad (E7 _) (fun r19 hr191=>?_)
      exact Ae ⟨⟨zq8,Ba⟩,(Aa hc hr18c)⟩
     ·exact Ae ⟨⟨zq8,Ba⟩,(Aa hc hr18c)⟩
    ·have hd56:=of_decide_eq_false hb56
     exact Ae ⟨⟨zq8,Ba⟩,(Aa hc hr7c)⟩
   ·exact Ae ⟨⟨zq8,Ba⟩,(Aa hc hr7c)⟩
 ·refine Ad (Aw _ (Aa hc hr5c) zq7) (fun r20 hr20c=>?_)
  refine Ak (fun hb67=>?_) (fun hb67=>?_)
  ·refine Ad (Bh _ (1) (4294967295) (Aa hc hr20c) zq3 zq3) (fun r21 ⟨⟨hr211,hr212⟩,hr21c⟩=>?_)
   refine Ad (E7 _) (fun r22 hr221=>?_)
   refine Ad (L3 _ _) (fun r23 hr231=>?_)
   refine Ad (Bh _ (-1) (1000005) (Aa hc hr21c) zq3 zq3) (fun r24 ⟨⟨hr241,hr242⟩,hr24c⟩=>?_)
   refine Ak (fun hb72=>?_) (fun hb72=>?_)
   ·have hd72:=eq_of_beq hb72
    refine Ak (fun hb74=>?_) (fun hb74=>?_)
    ·have hd74:=of_decide_eq_true hb74
     refine Ak (fun hb76=>?_) (fun hb76=>?_)
     ·have hd76:=eq_of_beq hb76
      refine Ak (fun hb78=>?_) (fun hb78=>?_)
      ·have hd78:=of_decide_eq_true hb78
       refine Ad (Aw _ (Aa hc hr24c) zq7) (fun r25 hr25c=>?_)
       refine Ak (fun hb81=>?_) (fun hb81=>?_)
       ·refine Ad (E7 _) (fun r26 hr261=>?_)
        exact Ae ⟨⟨zq8,Ba⟩,(Aa hc hr25c)⟩
       ·exact Ae ⟨⟨zq8,Ba⟩,(Aa hc hr25c)⟩
      ·have hd78:=of_decide_eq_false hb78
       exact Ae ⟨⟨zq8,Ba⟩,(Aa hc hr24c)⟩
     ·exact Ae ⟨⟨zq8,Ba⟩,(Aa hc hr24c)⟩
    ·have hd74:=of_decide_eq_false hb74
     refine Ak (fun hb89=>?_) (fun hb89=>?_)
     ·have hd89:=eq_of_beq hb89
      refine Ak (fun hb91=>?_) (fun hb91=>?_)
      ·have hd91:=of_decide_eq_true hb91
       refine Ad (Aw _ (Aa hc hr24c) zq7) (fun r27 hr27c=>?_)
       refine Ak (fun hb94=>?_) (fun hb94=>?_)
       ·refine Ad (E7 _) (fun r28 hr281=>?_)
        exact Ae ⟨⟨zq8,Ba⟩,(Aa hc hr27c)⟩
       ·exact Ae ⟨⟨zq8,Ba⟩,(Aa hc hr27c)⟩
      ·have hd91:=of_decide_eq_false hb91
       exact Ae ⟨⟨zq8,Ba⟩,(Aa hc hr24c)⟩
     ·exact Ae ⟨⟨zq8,Ba⟩,(Aa hc hr24c)⟩
   ·refine Ak (fun hb101=>?_) (fun hb101=>?_)
    ·have hd101:=eq_of_beq hb101
     refine Ak (fun hb103=>?_) (fun hb103=>?_)
     ·have hd103:=of_decide_eq_true hb103
      refine Ad (Aw _ (Aa hc hr24c) zq7) (fun r29 hr29c=>?_)
      refine Ak (fun hb106=>?_) (fun hb106=>?_)
      ·refine Ad (E7 _) (fun r30 hr301=>?_)
       exact Ae ⟨⟨zq8,Ba⟩,(Aa hc hr29c)⟩
      ·exact Ae ⟨⟨zq8,Ba⟩,(Aa hc hr29c)⟩
     ·have hd103:=of_decide_eq_false hb103
      exact Ae ⟨⟨zq8,Ba⟩,(Aa hc hr24c)⟩
    ·exact Ae ⟨⟨zq8,Ba⟩,(Aa hc hr24c)⟩
  ·refine Ak (fun hb113=>?_) (fun hb113=>?_)
   ·have hd113:=eq_of_beq hb113
    refine Ak (fun hb115=>?_) (fun hb115=>?_)
    ·have hd115:=of_decide_eq_true hb115
     refine Ad (Aw _ (Aa hc hr20c) zq7) (fun r31 hr31c=>?_)
     refine Ak (fun hb118=>?_) (fun hb118=>?_)
     ·refine Ad (E7 _) (fun r32 hr321=>?_)
      exact Ae ⟨⟨zq8,Ba⟩,(Aa hc hr31c)⟩
     ·exact Ae ⟨⟨zq8,Ba⟩,(Aa hc hr31c)⟩
    ·have hd115:=of_decide_eq_false hb115
     exact Ae ⟨⟨zq8,Ba⟩,(Aa hc hr20c)⟩
   ·exact Ae ⟨⟨zq8,Ba⟩,(Aa hc hr20c)⟩
theorem A3c {b:List YB} {a0:Av} (hc:Bx b a0):Tot (fun r=>(Ax r.1≤900∧wfB r.1.2.1)∧Bx b r.2) (Adg a0):=by
 unfold Adg Adf
 simp only[Af,Ah,Ac,An,List.length_nil,List.nil_append,Nat.zero_add]
 refine Ad (Bb _ hc zq7) (fun r1 ⟨⟨hr11,hr12⟩,hr1c⟩=>?_)
 refine Ad (Amm _ (Aa hc hr1c)) (fun r2 ⟨⟨hr21,hr22⟩,hr2c⟩=>?_)
 refine Ad (Bb _ (Aa hc hr2c) zq7) (fun r3 ⟨⟨hr31,hr32⟩,hr3c⟩=>?_)
 refine Ak (fun hb3=>?_) (fun hb3=>?_)
 ·have hd3:=eq_of_beq hb3
  refine Ad (Bh _ (-1) (2) (Aa hc hr3c) zq3 zq3) (fun r4 ⟨⟨hr41,hr42⟩,hr4c⟩=>?_)
  exact Ae ⟨⟨zq8,Ba⟩,(Aa hc hr4c)⟩
 ·refine Ak (fun hb7=>?_) (fun hb7=>?_)
  ·have hd7:=eq_of_beq hb7
   refine Ad (Cn _ (Aa hc hr3c) zq7) (fun r5 ⟨⟨hr51,hr52⟩,hr5c⟩=>?_)
   exact Ae ⟨⟨zq8,Ba⟩,(Aa hc hr5c)⟩
  ·refine Ak (fun hb11=>?_) (fun hb11=>?_)
   ·have hd11:=eq_of_beq hb11
    refine Ad (At9 (Aa hc hr3c)) (fun r6 ⟨hr61,hr6c⟩=>?_)
    exact Ae ⟨⟨zq8,Ba⟩,(Aa hc hr6c)⟩
   ·refine Ak (fun hb15=>?_) (fun hb15=>?_)
    ·have hd15:=eq_of_beq hb15
     refine Ad (At9 (Aa hc hr3c)) (fun r7 ⟨hr71,hr7c⟩=>?_)
     exact Ae ⟨⟨zq8,Ba⟩,(Aa hc hr7c)⟩
    ·refine Ak (fun hb19=>?_) (fun hb19=>?_)
     ·have hd19:=eq_of_beq hb19
      exact Ae ⟨⟨zq8,Ba⟩,(Aa hc hr3c)⟩
     ·refine Ak (fun hb22=>?_) (fun hb22=>?_)
      ·have hd22:=eq_of_beq hb22
       refine Ad (Bh _ (-2) (1000006) (Aa hc hr3c) zq3 zq3) (fun r8 ⟨⟨hr81,hr82⟩,hr8c⟩=>?_)
       exact Ae ⟨⟨zq8,Ba⟩,(Aa hc hr8c)⟩
      ·refine Ak (fun hb26=>?_) (fun hb26=>?_)
       ·have hd26:=eq_of_beq hb26
        refine Ad (Bh _ (0) (32) (Aa hc hr3c) zq3 zq3) (fun r9 ⟨⟨hr91,hr92⟩,hr9c⟩=>?_)
        refine Ad (Cn _ (Aa hc hr9c) zq7) (fun r10 ⟨⟨hr101,hr102⟩,hr10c⟩=>?_)
        exact Ae ⟨⟨zq8,Ba⟩,(Aa hc hr10c)⟩
       ·exact Ae ⟨⟨zq8,Ba⟩,(Aa hc hr3c)⟩
theorem Ax1 {b:List YB} {a0:Av} (a1:Aj) (hc:Bx b a0) (hn:Ax a1≤100000) (hw:wfB a1.2.1):Tot (fun r=>(Aq r.1≤Ax a1+200∧wfB r.1.2.2.2.1)∧Bx b r.2) (Pm a0 a1):=by
 unfold Pm Vt
 simp only[Af,Ah,Ac,An,List.length_nil,List.nil_append,Nat.zero_add]
 refine Ad (A28 hc) (fun r1 ⟨hr11,hr1c⟩=>?_)
 refine Ak (fun hb1=>?_) (fun hb1=>?_)
 ·refine Ad (Aw _ (Aa hc hr1c) zq7) (fun r2 hr2c=>?_)
  refine Ak (fun hb3=>?_) (fun hb3=>?_)
  ·refine Ak (fun hb4=>?_) (fun hb4=>?_)
   ·have hd4:=of_decide_eq_true hb4
    refine Ad (Aw _ (Aa hc hr2c) zq7) (fun r3 hr3c=>?_)
    refine Ak (fun hb7=>?_) (fun hb7=>?_)
    ·refine Ad (L3 _ _) (fun r4 hr41=>?_)
     refine Ad (Bh _ (-1) (5) (Aa hc hr3c) zq3 zq3) (fun r5 ⟨⟨hr51,hr52⟩,hr5c⟩=>?_)
     refine Ak (fun hb10=>?_) (fun hb10=>?_)
     ·have hd10:=of_decide_eq_true hb10
      refine Ad (Aw _ (Aa hc hr5c) zq7) (fun r6 hr6c=>?_)
      refine Ak (fun hb13=>?_) (fun hb13=>?_)
      ·refine Ad (Bt _ _ _ _ _ _ _ zq7 zq7) (fun r7 ⟨hr71,hr72⟩=>?_)
       refine Ad (Aw _ (Aa hc hr6c) zq7) (fun r8 hr8c=>?_)
       refine Ak (fun hb16=>?_) (fun hb16=>?_)
       ·refine Ad (Bl _ (Aa hc hr8c) zq7 D5) (fun r9 ⟨⟨hr91,hr92⟩,hr9c⟩=>?_)
        exact Ae ⟨⟨zq8,Ba⟩,(Aa hc hr9c)⟩
       ·exact Ae ⟨⟨zq8,Ba⟩,(Aa hc hr8c)⟩
      ·refine Ad (Bt _ _ _ _ _ _ _ zq7 zq7) (fun r10 ⟨hr101,hr102⟩=>?_)
       refine Ad (Aw _ (Aa hc hr6c) zq7) (fun r11 hr11c=>?_)
       refine Ak (fun hb22=>?_) (fun hb22=>?_)
       ·refine Ad (Bl _ (Aa hc hr11c) zq7 D5) (fun r12 ⟨⟨hr121,hr122⟩,hr12c⟩=>?_)
        exact Ae ⟨⟨zq8,Ba⟩,(Aa hc hr12c)⟩
       ·exact Ae ⟨⟨zq8,Ba⟩,(Aa hc hr11c)⟩
     ·have hd10:=of_decide_eq_false hb10
      refine Ad (Aw _ (Aa hc hr5c) zq7) (fun r13 hr13c=>?_)
      refine Ak (fun hb28=>?_) (fun hb28=>?_)
      ·refine Ad (Bt _ _ _ _ _ _ _ zq7 zq7) (fun r14 ⟨hr141,hr142⟩=>?_)
       refine Ad (Aw _ (Aa hc hr13c) zq7) (fun r15 hr15c=>?_)
       refine Ak (fun hb31=>?_) (fun hb31=>?_)
       ·refine Ad (Bl _ (Aa hc hr15c) zq7 D5) (fun r16 ⟨⟨hr161,hr162⟩,hr16c⟩=>?_)
        exact Ae ⟨⟨zq8,Ba⟩,(Aa hc hr16c)⟩
       ·exact Ae ⟨⟨zq8,Ba⟩,(Aa hc hr15c)⟩
      ·refine Ad (Bt _ _ _ _ _ _ _ zq7 zq7) (fun r17 ⟨hr171,hr172⟩=>?_)
       refine Ad (Aw _ (Aa hc hr13c) zq7) (fun r18 hr18c=>?_)
       refine Ak (fun hb37=>?_) (fun hb37=>?_)
       ·refine Ad (Bl _ (Aa hc hr18c) zq7 D5) (fun r19 ⟨⟨hr191,hr192⟩,hr19c⟩=>?_)
        exact Ae ⟨⟨zq8,Ba⟩,(Aa hc hr19c)⟩
       ·exact Ae ⟨⟨zq8,Ba⟩,(Aa hc hr18c)⟩
    ·refine Ad (Bh _ (-1) (5) (Aa hc hr3c) zq3 zq3) (fun r20 ⟨⟨hr201,hr202⟩,hr20c⟩=>?_)
     refine Ak (fun hb42=>?_) (fun hb42=>?_)
     ·have hd42:=of_decide_eq_true hb42
      refine Ad (Aw _ (Aa hc hr20c) zq7) (fun r21 hr21c=>?_)
      refine Ak (fun hb45=>?_) (fun hb45=>?_)
      ·refine Ad (Bt _ _ _ _ _ _ _ zq7 zq7) (fun r22 ⟨hr221,hr222⟩=>?_)
       refine Ad (Aw _ (Aa hc hr21c) zq7) (fun r23 hr23c=>?_)
       refine Ak (fun hb48=>?_) (fun hb48=>?_)
       ·refine Ad (Bl _ (Aa hc hr23c) zq7 D5) (fun r24 ⟨⟨hr241,hr242⟩,hr24c⟩=>?_)
        exact Ae ⟨⟨zq8,Ba⟩,(Aa hc hr24c)⟩
       ·exact Ae ⟨⟨zq8,Ba⟩,(Aa hc hr23c)⟩
      ·refine Ad (Bt _ _ _ _ _ _ _ zq7 zq7) (fun r25 ⟨hr251,hr252⟩=>?_)
       refine Ad (Aw _ (Aa hc hr21c) zq7) (fun r26 hr26c=>?_)
       refine Ak (fun hb54=>?_) (fun hb54=>?_)
       ·refine Ad (Bl _ (Aa hc hr26c) zq7 D5) (fun r27 ⟨⟨hr271,hr272⟩,hr27c⟩=>?_)
        exact Ae ⟨⟨zq8,Ba⟩,(Aa hc hr27c)⟩
       ·exact Ae ⟨⟨zq8,Ba⟩,(Aa hc hr26c)⟩
     ·have hd42:=of_decide_eq_false hb42
      refine Ad (Aw _ (Aa hc hr20c) zq7) (fun r28 hr28c=>?_)
      refine Ak (fun hb60=>?_) (fun hb60=>?_)
      ·refine Ad (Bt _ _ _ _ _ _ _ zq7 zq7) (fun r29 ⟨hr291,hr292⟩=>?_)
       refine Ad (Aw _ (Aa hc hr28c) zq7) (fun r30 hr30c=>?_)
       refine Ak (fun hb63=>?_) (fun hb63=>?_)
       ·refine Ad (Bl _ (Aa hc hr30c) zq7 D5) (fun r31 ⟨⟨hr311,hr312⟩,hr31c⟩=>?_)
        exact Ae ⟨⟨zq8,Ba⟩,(Aa hc hr31c)⟩
       ·exact Ae ⟨⟨zq8,Ba⟩,(Aa hc hr30c)⟩
      ·refine Ad (Bt _ _ _ _ _ _ _ zq7 zq7) (fun r32 ⟨hr321,hr322⟩=>?_)
       refine Ad (Aw _ (Aa hc hr28c) zq7) (fun r33 hr33c=>?_)
       refine Ak (fun hb69=>?_) (fun hb69=>?_)
       ·refine Ad (Bl _ (Aa hc hr33c) zq7 D5) (fun r34 ⟨⟨hr341,hr342⟩,hr34c⟩=>?_)
        exact Ae ⟨⟨zq8,Ba⟩,(Aa hc hr34c)⟩
       ·exact Ae ⟨⟨zq8,Ba⟩,(Aa hc hr33c)⟩
   ·have hd4:=of_decide_eq_false hb4
    refine Ad (Bh _ (-1) (5) (Aa hc hr2c) zq3 zq3) (fun r35 ⟨⟨hr351,hr352⟩,hr35c⟩=>?_)
    refine Ak (fun hb75=>?_) (fun hb75=>?_)
    ·have hd75:=of_decide_eq_true hb75
     refine Ad (Aw _ (Aa hc hr35c) zq7) (fun r36 hr36c=>?_)
     refine Ak (fun hb78=>?_) (fun hb78=>?_)
     ·refine Ad (Bt _ _ _ _ _ _ _ zq7 zq7) (fun r37 ⟨hr371,hr372⟩=>?_)
      refine Ad (Aw _ (Aa hc hr36c) zq7) (fun r38 hr38c=>?_)
      refine Ak (fun hb81=>?_) (fun hb81=>?_)
      ·refine Ad (Bl _ (Aa hc hr38c) zq7 D5) (fun r39 ⟨⟨hr391,hr392⟩,hr39c⟩=>?_)
       exact Ae ⟨⟨zq8,Ba⟩,(Aa hc hr39c)⟩
      ·exact Ae ⟨⟨zq8,Ba⟩,(Aa hc hr38c)⟩
     ·refine Ad (Bt _ _ _ _ _ _ _ zq7 zq7) (fun r40 ⟨hr401,hr402⟩=>?_)
      refine Ad (Aw _ (Aa hc hr36c) zq7) (fun r41 hr41c=>?_)
      refine Ak (fun hb87=>?_) (fun hb87=>?_)
      ·refine Ad (Bl _ (Aa hc hr41c) zq7 D5) (fun r42 ⟨⟨hr421,hr422⟩,hr42c⟩=>?_)
       exact Ae ⟨⟨zq8,Ba⟩,(Aa hc hr42c)⟩
      ·exact Ae ⟨⟨zq8,Ba⟩,(Aa hc hr41c)⟩
    ·have hd75:=of_decide_eq_false hb75
     refine Ad (Aw _ (Aa hc hr35c) zq7) (fun r43 hr43c=>?_)
     refine Ak (fun hb93=>?_) (fun hb93=>?_)
     ·refine Ad (Bt _ _ _ _ _ _ _ zq7 zq7) (fun r44 ⟨hr441,hr442⟩=>?_)
      refine Ad (Aw _ (Aa hc hr43c) zq7) (fun r45 hr45c=>?_)
      refine Ak (fun hb96=>?_) (fun hb96=>?_)
      ·refine Ad (Bl _ (Aa hc hr45c) zq7 D5) (fun r46 ⟨⟨hr461,hr462⟩,hr46c⟩=>?_)
       exact Ae ⟨⟨zq8,Ba⟩,(Aa hc hr46c)⟩
      ·exact Ae ⟨⟨zq8,Ba⟩,(Aa hc hr45c)⟩
     ·refine Ad (Bt _ _ _ _ _ _ _ zq7 zq7) (fun r47 ⟨hr471,hr472⟩=>?_)
      refine Ad (Aw _ (Aa hc hr43c) zq7) (fun r48 hr48c=>?_)
      refine Ak (fun hb102=>?_) (fun hb102=>?_)
      ·refine Ad (Bl _ (Aa hc hr48c) zq7 D5) (fun r49 ⟨⟨hr491,hr492⟩,hr49c⟩=>?_)
       exact Ae ⟨⟨zq8,Ba⟩,(Aa hc hr49c)⟩
      ·exact Ae ⟨⟨zq8,Ba⟩,(Aa hc hr48c)⟩
  ·refine Ak (fun hb106=>?_) (fun hb106=>?_)
   ·have hd106:=of_decide_eq_true hb106
    refine Ad (Aw _ (Aa hc hr2c) zq7) (fun r50 hr50c=>?_)
    refine Ak (fun hb109=>?_) (fun hb109=>?_)
    ·refine Ad (L3 _ _) (fun r51 hr511=>?_)
     refine Ad (Bh _ (-1) (5) (Aa hc hr50c) zq3 zq3) (fun r52 ⟨⟨hr521,hr522⟩,hr52c⟩=>?_)
     refine Ak (fun hb112=>?_) (fun hb112=>?_)
     ·have hd112:=of_decide_eq_true hb112
      refine Ad (Aw _ (Aa hc hr52c) zq7) (fun r53 hr53c=>?_)
      refine Ak (fun hb115=>?_) (fun hb115=>?_)
      ·refine Ad (Bt _ _ _ _ _ _ _ zq7 zq7) (fun r54 ⟨hr541,hr542⟩=>?_)
       refine Ad (Aw _ (Aa hc hr53c) zq7) (fun r55 hr55c=>?_)
       refine Ak (fun hb118=>?_) (fun hb118=>?_)
       ·refine Ad (Bl _ (Aa hc hr55c) zq7 D5) (fun r56 ⟨⟨hr561,hr562⟩,hr56c⟩=>?_)
        exact Ae ⟨⟨zq8,Ba⟩,(Aa hc hr56c)⟩
       ·exact Ae ⟨⟨zq8,Ba⟩,(Aa hc hr55c)⟩
      ·refine Ad (Bt _ _ _ _ _ _ _ zq7 zq7) (fun r57 ⟨hr571,hr572⟩=>?_)
       refine Ad (Aw _ (Aa hc hr53c) zq7) (fun r58 hr58c=>?_)
       refine Ak (fun hb124=>?_) (fun hb124=>?_)
       ·refine Ad (Bl _ (Aa hc hr58c) zq7 D5) (fun r59 ⟨⟨hr591,hr592⟩,hr59c⟩=>?_)
        exact Ae ⟨⟨zq8,Ba⟩,(Aa hc hr59c)⟩
       ·exact Ae ⟨⟨zq8,Ba⟩,(Aa hc hr58c)⟩
     ·have hd112:=of_decide_eq_false hb112
      refine Ad (Aw _ (Aa hc hr52c) zq7) (fun r60 hr60c=>?_)
      refine Ak (fun hb130=>?_) (fun hb130=>?_)
      ·refine Ad (Bt _ _ _ _ _ _ _ zq7 zq7) (fun r61 ⟨hr611,hr612⟩=>?_)
       refine Ad (Aw _ (Aa hc hr60c) zq7) (fun r62 hr62c=>?_)
       refine Ak (fun hb133=>?_) (fun hb133=>?_)
       ·refine Ad (Bl _ (Aa hc hr62c) zq7 D5) (fun r63 ⟨⟨hr631,hr632⟩,hr63c⟩=>?_)
        exact Ae ⟨⟨zq8,Ba⟩,(Aa hc hr63c)⟩
       ·exact Ae ⟨⟨zq8,Ba⟩,(Aa hc hr62c)⟩
      ·refine Ad (Bt _ _ _ _ _ _ _ zq7 zq7) (fun r64 ⟨hr641,hr642⟩=>?_)
       refine Ad (Aw _ (Aa hc hr60c) zq7) (fun r65 hr65c=>?_)
       refine Ak (fun hb139=>?_) (fun hb139=>?_)
       ·refine Ad (Bl _ (Aa hc hr65c) zq7 D5) (fun r66 ⟨⟨hr661,hr662⟩,hr66c⟩=>?_)
        exact Ae ⟨⟨zq8,Ba⟩,(Aa hc hr66c)⟩
       ·exact Ae ⟨⟨zq8,Ba⟩,(Aa hc hr65c)⟩
    ·refine Ad (Bh _ (-1) (5) (Aa hc hr50c) zq3 zq3) (fun r67 ⟨⟨hr671,hr672⟩,hr67c⟩=>?_)
     refine Ak (fun hb144=>?_) (fun hb144=>?_)
     ·have hd144:=of_decide_eq_true hb144
      refine Ad (Aw _ (Aa hc hr67c) zq7) (fun r68 hr68c=>?_)
      refine Ak (fun hb147=>?_) (fun hb147=>?_)
      ·refine Ad (Bt _ _ _ _ _ _ _ zq7 zq7) (fun r69 ⟨hr691,hr692⟩=>?_)
       refine Ad (Aw _ (Aa hc hr68c) zq7) (fun r70 hr70c=>?_)
       refine Ak (fun hb150=>?_) (fun hb150=>?_)
       ·refine Ad (Bl _ (Aa hc hr70c) zq7 D5) (fun r71 ⟨⟨hr711,hr712⟩,hr71c⟩=>?_)
        exact Ae ⟨⟨zq8,Ba⟩,(Aa hc hr71c)⟩
       ·exact Ae ⟨⟨zq8,Ba⟩,(Aa hc hr70c)⟩
      ·refine Ad (Bt _ _ _ _ _ _ _ zq7 zq7) (fun r72 ⟨hr721,hr722⟩=>?_)
       refine Ad (Aw _ (Aa hc hr68c) zq7) (fun r73 hr73c=>?_)
       refine Ak (fun hb156=>?_) (fun hb156=>?_)
       ·refine Ad (Bl _ (Aa hc hr73c) zq7 D5) (fun r74 ⟨⟨hr741,hr742⟩,hr74c⟩=>?_)
        exact Ae ⟨⟨zq8,Ba⟩,(Aa hc hr74c)⟩
       ·exact Ae ⟨⟨zq8,Ba⟩,(Aa hc hr73c)⟩
     ·have hd144:=of_decide_eq_false hb144
      refine Ad (Aw _ (Aa hc hr67c) zq7) (fun r75 hr75c=>?_)
      refine Ak (fun hb162=>?_) (fun hb162=>?_)
      ·refine Ad (Bt _ _ _ _ _ _ _ zq7 zq7) (fun r76 ⟨hr761,hr762⟩=>?_)
       refine Ad (Aw _ (Aa hc hr75c) zq7) (fun r77 hr77c=>?_)
       refine Ak (fun hb165=>?_) (fun hb165=>?_)
       ·refine Ad (Bl _ (Aa hc hr77c) zq7 D5) (fun r78 ⟨⟨hr781,hr782⟩,hr78c⟩=>?_)
        exact Ae ⟨⟨zq8,Ba⟩,(Aa hc hr78c)⟩
       ·exact Ae ⟨⟨zq8,Ba⟩,(Aa hc hr77c)⟩
      ·refine Ad (Bt _ _ _ _ _ _ _ zq7 zq7) (fun r79 ⟨hr791,hr792⟩=>?_)
       refine Ad (Aw _ (Aa hc hr75c) zq7) (fun r80 hr80c=>?_)
       refine Ak (fun hb171=>?_) (fun hb171=>?_)
       ·refine Ad (Bl _ (Aa hc hr80c) zq7 D5) (fun r81 ⟨⟨hr811,hr812⟩,hr81c⟩=>?_)
        exact Ae ⟨⟨zq8,Ba⟩,(Aa hc hr81c)⟩
       ·exact Ae ⟨⟨zq8,Ba⟩,(Aa hc hr80c)⟩
   ·have hd106:=of_decide_eq_false hb106
    refine Ad (Bh _ (-1) (5) (Aa hc hr2c) zq3 zq3) (fun r82 ⟨⟨hr821,hr822⟩,hr82c⟩=>?_)
    refine Ak (fun hb177=>?_) (fun hb177=>?_)
    ·have hd177:=of_decide_eq_true hb177
     refine Ad (Aw _ (Aa hc hr82c) zq7) (fun r83 hr83c=>?_)
     refine Ak (fun hb180=>?_) (fun hb180=>?_)
     ·refine Ad (Bt _ _ _ _ _ _ _ zq7 zq7) (fun r84 ⟨hr841,hr842⟩=>?_)
      refine Ad (Aw _ (Aa hc hr83c) zq7) (fun r85 hr85c=>?_)
      refine Ak (fun hb183=>?_) (fun hb183=>?_)
      ·refine Ad (Bl _ (Aa hc hr85c) zq7 D5) (fun r86 ⟨⟨hr861,hr862⟩,hr86c⟩=>?_)
       exact Ae ⟨⟨zq8,Ba⟩,(Aa hc hr86c)⟩
      ·exact Ae ⟨⟨zq8,Ba⟩,(Aa hc hr85c)⟩
     ·refine Ad (Bt _ _ _ _ _ _ _ zq7 zq7) (fun r87 ⟨hr871,hr872⟩=>?_)
      refine Ad (Aw _ (Aa hc hr83c) zq7) (fun r88 hr88c=>?_)
      refine Ak (fun hb189=>?_) (fun hb189=>?_)
      ·refine Ad (Bl _ (Aa hc hr88c) zq7 D5) (fun r89 ⟨⟨hr891,hr892⟩,hr89c⟩=>?_)
       exact Ae ⟨⟨zq8,Ba⟩,(Aa hc hr89c)⟩
      ·exact Ae ⟨⟨zq8,Ba⟩,(Aa hc hr88c)⟩
    ·have hd177:=of_decide_eq_false hb177
     refine Ad (Aw _ (Aa hc hr82c) zq7) (fun r90 hr90c=>?_)
     refine Ak (fun hb195=>?_) (fun hb195=>?_)
     ·refine Ad (Bt _ _ _ _ _ _ _ zq7 zq7) (fun r91 ⟨hr911,hr912⟩=>?_)
      refine Ad (Aw _ (Aa hc hr90c) zq7) (fun r92 hr92c=>?_)
      refine Ak (fun hb198=>?_) (fun hb198=>?_)
      ·refine Ad (Bl _ (Aa hc hr92c) zq7 D5) (fun r93 ⟨⟨hr931,hr932⟩,hr93c⟩=>?_)
       exact Ae ⟨⟨zq8,Ba⟩,(Aa hc hr93c)⟩
      ·exact Ae ⟨⟨zq8,Ba⟩,(Aa hc hr92c)⟩
     ·refine Ad (Bt _ _ _ _ _ _ _ zq7 zq7) (fun r94 ⟨hr941,hr942⟩=>?_)
      refine Ad (Aw _ (Aa hc hr90c) zq7) (fun r95 hr95c=>?_)
      refine Ak (fun hb204=>?_) (fun hb204=>?_)
      ·refine Ad (Bl _ (Aa hc hr95c) zq7 D5) (fun r96 ⟨⟨hr961,hr962⟩,hr96c⟩=>?_)
       exact Ae ⟨⟨zq8,Ba⟩,(Aa hc hr96c)⟩
      ·exact Ae ⟨⟨zq8,Ba⟩,(Aa hc hr95c)⟩
 ·refine Ak (fun hb208=>?_) (fun hb208=>?_)
  ·have hd208:=of_decide_eq_true hb208
   refine Ad (Aw _ (Aa hc hr1c) zq7) (fun r97 hr97c=>?_)
   refine Ak (fun hb211=>?_) (fun hb211=>?_)
   ·refine Ad (L3 _ _) (fun r98 hr981=>?_)
    refine Ad (Bh _ (-1) (5) (Aa hc hr97c) zq3 zq3) (fun r99 ⟨⟨hr991,hr992⟩,hr99c⟩=>?_)
    refine Ak (fun hb214=>?_) (fun hb214=>?_)
    ·have hd214:=of_decide_eq_true hb214
     refine Ad (Aw _ (Aa hc hr99c) zq7) (fun r100 hr100c=>?_)
     refine Ak (fun hb217=>?_) (fun hb217=>?_)
     ·refine Ad (Bt _ _ _ _ _ _ _ zq7 zq7) (fun r101 ⟨hr1011,hr1012⟩=>?_)
      refine Ad (Aw _ (Aa hc hr100c) zq7) (fun r102 hr102c=>?_)
      refine Ak (fun hb220=>?_) (fun hb220=>?_)
      ·refine Ad (Bl _ (Aa hc hr102c) zq7 D5) (fun r103 ⟨⟨hr1031,hr1032⟩,hr103c⟩=>?_)
       exact Ae ⟨⟨zq8,Ba⟩,(Aa hc hr103c)⟩
      ·exact Ae ⟨⟨zq8,Ba⟩,(Aa hc hr102c)⟩
     ·refine Ad (Bt _ _ _ _ _ _ _ zq7 zq7) (fun r104 ⟨hr1041,hr1042⟩=>?_)
      refine Ad (Aw _ (Aa hc hr100c) zq7) (fun r105 hr105c=>?_)
      refine Ak (fun hb226=>?_) (fun hb226=>?_)
      ·refine Ad (Bl _ (Aa hc hr105c) zq7 D5) (fun r106 ⟨⟨hr1061,hr1062⟩,hr106c⟩=>?_)
       exact Ae ⟨⟨zq8,Ba⟩,(Aa hc hr106c)⟩
      ·exact Ae ⟨⟨zq8,Ba⟩,(Aa hc hr105c)⟩
    ·have hd214:=of_decide_eq_false hb214
     refine Ad (Aw _ (Aa hc hr99c) zq7) (fun r107 hr107c=>?_)
     refine Ak (fun hb232=>?_) (fun hb232=>?_)
     ·refine Ad (Bt _ _ _ _ _ _ _ zq7 zq7) (fun r108 ⟨hr1081,hr1082⟩=>?_)
      refine Ad (Aw _ (Aa hc hr107c) zq7) (fun r109 hr109c=>?_)
      refine Ak (fun hb235=>?_) (fun hb235=>?_)
      ·refine Ad (Bl _ (Aa hc hr109c) zq7 D5) (fun r110 ⟨⟨hr1101,hr1102⟩,hr110c⟩=>?_)
       exact Ae ⟨⟨zq8,Ba⟩,(Aa hc hr110c)⟩
      ·exact Ae ⟨⟨zq8,Ba⟩,(Aa hc hr109c)⟩
     ·refine Ad (Bt _ _ _ _ _ _ _ zq7 zq7) (fun r111 ⟨hr1111,hr1112⟩=>?_)
      refine Ad (Aw _ (Aa hc hr107c) zq7) (fun r112 hr112c=>?_)
      refine Ak (fun hb241=>?_) (fun hb241=>?_)
      ·refine Ad (Bl _ (Aa hc hr112c) zq7 D5) (fun r113 ⟨⟨hr1131,hr1132⟩,hr113c⟩=>?_)
       exact Ae ⟨⟨zq8,Ba⟩,(Aa hc hr113c)⟩
      ·exact Ae ⟨⟨zq8,Ba⟩,(Aa hc hr112c)⟩
   ·refine Ad (Bh _ (-1) (5) (Aa hc hr97c) zq3 zq3) (fun r114 ⟨⟨hr1141,hr1142⟩,hr114c⟩=>?_)
    refine Ak (fun hb246=>?_) (fun hb246=>?_)
    ·have hd246:=of_decide_eq_true hb246
     refine Ad (Aw _ (Aa hc hr114c) zq7) (fun r115 hr115c=>?_)
     refine Ak (fun hb249=>?_) (fun hb249=>?_)
     ·refine Ad (Bt _ _ _ _ _ _ _ zq7 zq7) (fun r116 ⟨hr1161,hr1162⟩=>?_)
      refine Ad (Aw _ (Aa hc hr115c) zq7) (fun r117 hr117c=>?_)
      refine Ak (fun hb252=>?_) (fun hb252=>?_)
      ·refine Ad (Bl _ (Aa hc hr117c) zq7 D5) (fun r118 ⟨⟨hr1181,hr1182⟩,hr118c⟩=>?_)
       exact Ae ⟨⟨zq8,Ba⟩,(Aa hc hr118c)⟩
      ·exact Ae ⟨⟨zq8,Ba⟩,(Aa hc hr117c)⟩
     ·refine Ad (Bt _ _ _ _ _ _ _ zq7 zq7) (fun r119 ⟨hr1191,hr1192⟩=>?_)
      refine Ad (Aw _ (Aa hc hr115c) zq7) (fun r120 hr120c=>?_)
      refine Ak (fun hb258=>?_) (fun hb258=>?_)
      ·refine Ad (Bl _ (Aa hc hr120c) zq7 D5) (fun r121 ⟨⟨hr1211,hr1212⟩,hr121c⟩=>?_)
       exact Ae ⟨⟨zq8,Ba⟩,(Aa hc hr121c)⟩
      ·exact Ae ⟨⟨zq8,Ba⟩,(Aa hc hr120c)⟩
    ·have hd246:=of_decide_eq_false hb246
     refine Ad (Aw _ (Aa hc hr114c) zq7) (fun r122 hr122c=>?_)
     refine Ak (fun hb264=>?_) (fun hb264=>?_)
     ·refine Ad (Bt _ _ _ _ _ _ _ zq7 zq7) (fun r123 ⟨hr1231,hr1232⟩=>?_)
      refine Ad (Aw _ (Aa hc hr122c) zq7) (fun r124 hr124c=>?_)
      refine Ak (fun hb267=>?_) (fun hb267=>?_)
      ·refine Ad (Bl _ (Aa hc hr124c) zq7 D5) (fun r125 ⟨⟨hr1251,hr1252⟩,hr125c⟩=>?_)
       exact Ae ⟨⟨zq8,Ba⟩,(Aa hc hr125c)⟩
      ·exact Ae ⟨⟨zq8,Ba⟩,(Aa hc hr124c)⟩
     ·refine Ad (Bt _ _ _ _ _ _ _ zq7 zq7) (fun r126 ⟨hr1261,hr1262⟩=>?_)
      refine Ad (Aw _ (Aa hc hr122c) zq7) (fun r127 hr127c=>?_)
      refine Ak (fun hb273=>?_) (fun hb273=>?_)
      ·refine Ad (Bl _ (Aa hc hr127c) zq7 D5) (fun r128 ⟨⟨hr1281,hr1282⟩,hr128c⟩=>?_)
       exact Ae ⟨⟨zq8,Ba⟩,(Aa hc hr128c)⟩
      ·exact Ae ⟨⟨zq8,Ba⟩,(Aa hc hr127c)⟩
  ·have hd208:=of_decide_eq_false hb208
   refine Ad (Bh _ (-1) (5) (Aa hc hr1c) zq3 zq3) (fun r129 ⟨⟨hr1291,hr1292⟩,hr129c⟩=>?_)
   refine Ak (fun hb279=>?_) (fun hb279=>?_)
   ·have hd279:=of_decide_eq_true hb279
    refine Ad (Aw _ (Aa hc hr129c) zq7) (fun r130 hr130c=>?_)
    refine Ak (fun hb282=>?_) (fun hb282=>?_)
    ·refine Ad (Bt _ _ _ _ _ _ _ zq7 zq7) (fun r131 ⟨hr1311,hr1312⟩=>?_)
     refine Ad (Aw _ (Aa hc hr130c) zq7) (fun r132 hr132c=>?_)
     refine Ak (fun hb285=>?_) (fun hb285=>?_)
     ·refine Ad (Bl _ (Aa hc hr132c) zq7 D5) (fun r133 ⟨⟨hr1331,hr1332⟩,hr133c⟩=>?_)
      exact Ae ⟨⟨zq8,Ba⟩,(Aa hc hr133c)⟩
     ·exact Ae ⟨⟨zq8,Ba⟩,(Aa hc hr132c)⟩
    ·refine Ad (Bt _ _ _ _ _ _ _ zq7 zq7) (fun r134 ⟨hr1341,hr1342⟩=>?_)
     refine Ad (Aw _ (Aa hc hr130c) zq7) (fun r135 hr135c=>?_)
     refine Ak (fun hb291=>?_) (fun hb291=>?_)
     ·refine Ad (Bl _ (Aa hc hr135c) zq7 D5) (fun r136 ⟨⟨hr1361,hr1362⟩,hr136c⟩=>?_)
      exact Ae ⟨⟨zq8,Ba⟩,(Aa hc hr136c)⟩
     ·exact Ae ⟨⟨zq8,Ba⟩,(Aa hc hr135c)⟩
   ·have hd279:=of_decide_eq_false hb279
    refine Ad (Aw _ (Aa hc hr129c) zq7) (fun r137 hr137c=>?_)
    refine Ak (fun hb297=>?_) (fun hb297=>?_)
    ·refine Ad (Bt _ _ _ _ _ _ _ zq7 zq7) (fun r138 ⟨hr1381,hr1382⟩=>?_)
     refine Ad (Aw _ (Aa hc hr137c) zq7) (fun r139 hr139c=>?_)
     refine Ak (fun hb300=>?_) (fun hb300=>?_)
     ·refine Ad (Bl _ (Aa hc hr139c) zq7 D5) (fun r140 ⟨⟨hr1401,hr1402⟩,hr140c⟩=>?_)
      exact Ae ⟨⟨zq8,Ba⟩,(Aa hc hr140c)⟩
     ·exact Ae ⟨⟨zq8,Ba⟩,(Aa hc hr139c)⟩
    ·refine Ad (Bt _ _ _ _ _ _ _ zq7 zq7) (fun r141 ⟨hr1411,hr1412⟩=>?_)
     refine Ad (Aw _ (Aa hc hr137c) zq7) (fun r142 hr142c=>?_)
     refine Ak (fun hb306=>?_) (fun hb306=>?_)
     ·refine Ad (Bl _ (Aa hc hr142c) zq7 D5) (fun r143 ⟨⟨hr1431,hr1432⟩,hr143c⟩=>?_)
      exact Ae ⟨⟨zq8,Ba⟩,(Aa hc hr143c)⟩
     ·exact Ae ⟨⟨zq8,Ba⟩,(Aa hc hr142c)⟩
end
end Go.Proofs.YtmhhajdeafijmaaGreat

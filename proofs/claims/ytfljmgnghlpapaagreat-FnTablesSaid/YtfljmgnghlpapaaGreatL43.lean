/-
  That the program and the reference answer alike, in plain terms, and that the laws answer true.
-/
import Derived.Test.YtfljmgnghlpapaaGreatL42
namespace Go.Proofs.YtfljmgnghlpapaaGreat
open Go.RowKit
set_option linter.unusedVariables false
set_option linter.unusedSimpArgs false
set_option maxRecDepth 100000
set_option maxHeartbeats 16000000
noncomputable section
theorem Avb (c:YBs):Tot (fun _=>True) (K9 c):=by rw[Ajn];exact Ae trivial
theorem Ata (c:Da):Tot (fun _=>True) (Ho c):=by rw[X3];exact Ae trivial
theorem D8 (k:YBs):Tot (fun r=>r.1.length≤32) (Cd k (Cq [114,101,107,101,121],())):=by
 have h:=Ah6 k.1 Ah7
 have e:Cd k (Cq [114,101,107,101,121],())=some (Ke k.1 Ah7,()):=Ald k.1
 rw[e];exact Ae zq2
theorem Za {b:List YB} {a0:Ap} (hc:Bw b a0):Tot (fun r=>r.1.2.1.length=32∧Bw b r.2) (L5 a0):=by
 unfold L5 Wu
 simp only[Ah,Ai,Ab,Am,List.length_nil,List.nil_append,Nat.zero_add]
 refine Ag (As9 _ hc zq4) (fun r1 ⟨hr11,hr1c⟩=>?_)
 refine Ag (Ava _ (by assumption)) (fun r2 hr21=>?_)
 exact Ae ⟨by assumption,(Ad hc hr1c)⟩
theorem Avc {b:List YB} {a0:Ap} (hc:Bw b a0):Tot (fun r=>r.1.2.1.length≤32∧Bw b r.2) (Ace a0):=by
 unfold Ace Abr
 simp only[Ah,Ai,Ab,Am,List.length_nil,List.nil_append,Nat.zero_add]
 refine Ag (Za hc) (fun r1 ⟨hr11,hr1c⟩=>?_)
 refine Ag (Ba _ (Ad hc hr1c) zq4) (fun r2 ⟨⟨hr21,hr22⟩,hr2c⟩=>?_)
 refine An (fun hb2=>?_) (fun hb2=>?_)
 ·have hd2:=eq_of_beq hb2
  refine Ag (Bh _ (-2) (281474976710656) (Ad hc hr2c) zq3 zq3) (fun r3 ⟨⟨hr31,hr32⟩,hr3c⟩=>?_)
  exact Ae ⟨zq5,(Ad hc hr3c)⟩
 ·refine An (fun hb6=>?_) (fun hb6=>?_)
  ·have hd6:=eq_of_beq hb6
   refine Ag (Ba _ (Ad hc hr2c) zq4) (fun r4 ⟨⟨hr41,hr42⟩,hr4c⟩=>?_)
   refine Ag (Bh _ (-1) (4294967296) (Ad hc hr4c) zq3 zq3) (fun r5 ⟨⟨hr51,hr52⟩,hr5c⟩=>?_)
   refine Ag (Gc (P:=fun _=>True) zq4 zq4 (fun _ _=>trivial)) (fun e6 _=>?_)
   exact Ae ⟨zq5,(Ad hc hr5c)⟩
  ·refine An (fun hb12=>?_) (fun hb12=>?_)
   ·have hd12:=eq_of_beq hb12
    refine Ag (Ba _ (Ad hc hr2c) zq4) (fun r8 ⟨⟨hr81,hr82⟩,hr8c⟩=>?_)
    refine Dr (Ao zq4) ?_
    refine Dr (Ao zq4) ?_
    exact Ae ⟨zq5,(Ad hc hr8c)⟩
   ·exact Ae ⟨zq5,(Ad hc hr2c)⟩
theorem Awy {b:List YB} {a0:Ap} (hc:Bw b a0):Tot (fun r=>Dj r.1≤150∧Bw b r.2) (Afu a0):=by
 unfold Afu Afl
 simp only[Ah,Ai,Ab,Am,List.length_nil,List.nil_append,Nat.zero_add]
 refine Ag (Bh _ (0) (4294967295) hc zq3 zq3) (fun r1 ⟨⟨hr11,hr12⟩,hr1c⟩=>?_)
 refine Ag (Ch _ (Ad hc hr1c) zq4) (fun r2 ⟨⟨hr21,hr22⟩,hr2c⟩=>?_)
 refine Ag (Tc _ _) (fun r3 hr31=>?_)
 refine Ag (Bh _ (0) (281474976710656) (Ad hc hr2c) zq3 zq3) (fun r4 ⟨⟨hr41,hr42⟩,hr4c⟩=>?_)
 refine Ag (Bz _ (Ad hc hr4c) zq4) (fun r5 hr5c=>?_)
 refine An (fun hb5=>?_) (fun hb5=>?_)
 ·refine Ag (Za (Ad hc hr5c)) (fun r6 ⟨hr61,hr6c⟩=>?_)
  exact Ae ⟨zq5,(Ad hc hr6c)⟩
 ·exact Ae ⟨zq5,(Ad hc hr5c)⟩
theorem Alj {b:List YB} {a0:Ap} (hc:Bw b a0):Tot (fun r=>Dj r.1≤250∧Bw b r.2) (S4 a0):=by
 unfold S4 Abs
 simp only[Ah,Ai,Ab,Am,List.length_nil,List.nil_append,Nat.zero_add]
 refine Ag (Awy hc) (fun r1 ⟨hr11,hr1c⟩=>?_)
 refine Ag (Ba _ (Ad hc hr1c) zq4) (fun r2 ⟨⟨hr21,hr22⟩,hr2c⟩=>?_)
 refine An (fun hb2=>?_) (fun hb2=>?_)
 ·have hd2:=eq_of_beq hb2
  refine Ag (Bh _ (-1) (4294967296) (Ad hc hr2c) zq3 zq3) (fun r3 ⟨⟨hr31,hr32⟩,hr3c⟩=>?_)
  exact Ae ⟨zq5,(Ad hc hr3c)⟩
 ·refine An (fun hb6=>?_) (fun hb6=>?_)
  ·have hd6:=eq_of_beq hb6
   refine Ag (Bh _ (0) (33) (Ad hc hr2c) zq3 zq3) (fun r4 ⟨⟨hr41,hr42⟩,hr4c⟩=>?_)
   refine Ag (Ch _ (Ad hc hr4c) zq4) (fun r5 ⟨⟨hr51,hr52⟩,hr5c⟩=>?_)
   exact Ae ⟨zq5,(Ad hc hr5c)⟩
  ·refine An (fun hb11=>?_) (fun hb11=>?_)
   ·have hd11:=eq_of_beq hb11
    refine Ag (Bh _ (-1) (281474976710657) (Ad hc hr2c) zq3 zq3) (fun r6 ⟨⟨hr61,hr62⟩,hr6c⟩=>?_)
    exact Ae ⟨zq5,(Ad hc hr6c)⟩
   ·refine An (fun hb15=>?_) (fun hb15=>?_)
    ·have hd15:=eq_of_beq hb15
     refine Ag (Avc (Ad hc hr2c)) (fun r7 ⟨hr71,hr7c⟩=>?_)
     exact Ae ⟨zq5,(Ad hc hr7c)⟩
    ·exact Ae ⟨zq5,(Ad hc hr2c)⟩
theorem Ae0 (a0:YI) (a1 a2:YBs) (hl:a1.1.length≤1000):Tot (fun r=>Bf r≤100∧(wfB a1.1→wfB r.2.1)) (N8 a0 a1 a2):=by
 unfold N8 T0
 simp only[Ah,Ai,Ab,Am,List.length_nil,List.nil_append,Nat.zero_add]
 refine Ag (Aoi _ _ _) (fun r1 _=>?_)
 refine An (fun hb1=>?_) (fun hb1=>?_)
 ·exact Ae ⟨zq5,fun hw=>by(dsimp only;first|exact Fp|exact hw)⟩
 ·refine An (fun hb3=>?_) (fun hb3=>?_)
  ·exact Ae ⟨zq5,fun hw=>by(dsimp only;first|exact Fp|exact hw)⟩
  ·have hd3:=bne_eq_false_iff_eq.1 hb3
   refine An (fun hb6=>?_) (fun hb6=>?_)
   ·exact Ae ⟨zq5,fun hw=>by(dsimp only;first|exact Fp|exact hw)⟩
   ·have hd6:=bne_eq_false_iff_eq.1 hb6
    refine Dr (Ao zq4) ?_
    refine Ag (Tc _ _) (fun r2 hr21=>?_)
    exact Ae ⟨zq5,fun hw=>by(dsimp only;first|exact Fp|exact hw)⟩
theorem Ae1 {b:List YB} {a0:Ap} (a1:YI) (hc:Bw b a0):Tot (fun r=>(Bf r.1≤400∧wfB r.1.2.1)∧Bw b r.2) (N9 a0 a1):=by
 unfold N9 T5
 simp only[Ah,Ai,Ab,Am,List.length_nil,List.nil_append,Nat.zero_add]
 refine Ag (Ch _ hc zq4) (fun r1 ⟨⟨hr11,hr12⟩,hr1c⟩=>?_)
 refine Ag (Ch _ (Ad hc hr1c) zq4) (fun r2 ⟨⟨hr21,hr22⟩,hr2c⟩=>?_)
 refine Ag (Ae0 _ _ _ zq4) (fun r3 ⟨hr31,hr32⟩=>?_)
 refine Ag (Bh _ (0) (281474976710656) (Ad hc hr2c) zq3 zq3) (fun r4 ⟨⟨hr41,hr42⟩,hr4c⟩=>?_)
 refine Ag (Bz _ (Ad hc hr4c) zq4) (fun r5 hr5c=>?_)
 refine An (fun hb5=>?_) (fun hb5=>?_)
 ·refine Ag (Za (Ad hc hr5c)) (fun r6 ⟨hr61,hr6c⟩=>?_)
  refine Ag (Bz _ (Ad hc hr6c) zq4) (fun r7 hr7c=>?_)
  refine An (fun hb8=>?_) (fun hb8=>?_)
  ·refine Ag (Bh _ (1) (4294967295) (Ad hc hr7c) zq3 zq3) (fun r8 ⟨⟨hr81,hr82⟩,hr8c⟩=>?_)
   refine Ag (D8 _) (fun r9 hr91=>?_)
   refine Ag (Tc _ _) (fun r10 hr101=>?_)
   refine Ag (Bh _ (-1) (1000005) (Ad hc hr8c) zq3 zq3) (fun r11 ⟨⟨hr111,hr112⟩,hr11c⟩=>?_)
   refine An (fun hb13=>?_) (fun hb13=>?_)
   ·have hd13:=eq_of_beq hb13
    refine An (fun hb15=>?_) (fun hb15=>?_)
    ·have hd15:=of_decide_eq_true hb15
     refine An (fun hb17=>?_) (fun hb17=>?_)
     ·have hd17:=eq_of_beq hb17
      refine An (fun hb19=>?_) (fun hb19=>?_)
      ·have hd19:=of_decide_eq_true hb19
       refine Ag (Bz _ (Ad hc hr11c) zq4) (fun r12 hr12c=>?_)
       refine An (fun hb22=>?_) (fun hb22=>?_)
       ·refine Ag (D8 _) (fun r13 hr131=>?_)
        exact Ae ⟨⟨zq5,zq6⟩,(Ad hc hr12c)⟩
       ·exact Ae ⟨⟨zq5,zq6⟩,(Ad hc hr12c)⟩
      ·have hd19:=of_decide_eq_false hb19
       exact Ae ⟨⟨zq5,zq6⟩,(Ad hc hr11c)⟩
     ·exact Ae ⟨⟨zq5,zq6⟩,(Ad hc hr11c)⟩
    ·have hd15:=of_decide_eq_false hb15
     refine An (fun hb30=>?_) (fun hb30=>?_)
     ·have hd30:=eq_of_beq hb30
      refine An (fun hb32=>?_) (fun hb32=>?_)
      ·have hd32:=of_decide_eq_true hb32
       refine Ag (Bz _ (Ad hc hr11c) zq4) (fun r14 hr14c=>?_)
       refine An (fun hb35=>?_) (fun hb35=>?_)
       ·refine Ag (D8 _) (fun r15 hr151=>?_)
        exact Ae ⟨⟨zq5,zq6⟩,(Ad hc hr14c)⟩
       ·exact Ae ⟨⟨zq5,zq6⟩,(Ad hc hr14c)⟩
      ·have hd32:=of_decide_eq_false hb32
       exact Ae ⟨⟨zq5,zq6⟩,(Ad hc hr11c)⟩
     ·exact Ae ⟨⟨zq5,zq6⟩,(Ad hc hr11c)⟩
   ·refine An (fun hb42=>?_) (fun hb42=>?_)
    ·have hd42:=eq_of_beq hb42
     refine An (fun hb44=>?_) (fun hb44=>?_)
     ·have hd44:=of_decide_eq_true hb44
      refine Ag (Bz _ (Ad hc hr11c) zq4) (fun r16 hr16c=>?_)
      refine An (fun hb47=>?_) (fun hb47=>?_)
      ·refine Ag (D8 _) (fun r17 hr171=>?_)
       exact Ae ⟨⟨zq5,zq6⟩,(Ad hc hr16c)⟩
      ·exact Ae ⟨⟨zq5,zq6⟩,(Ad hc hr16c)⟩
     ·have hd44:=of_decide_eq_false hb44
      exact Ae ⟨⟨zq5,zq6⟩,(Ad hc hr11c)⟩
    ·exact Ae ⟨⟨zq5,zq6⟩,(Ad hc hr11c)⟩
  ·refine An (fun hb54=>?_) (fun hb54=>?_)
   ·have hd54:=eq_of_beq hb54
    refine An (fun hb56=>?_) (fun hb56=>?_)
    ·have hd56:=of_decide_eq_true hb56
     refine Ag (Bz _ (Ad hc hr7c) zq4) (fun r18 hr18c=>?_)
     refine An (fun hb59=>?_) (fun hb59=>?_)
     ·refine Ag (D8 _) (fun r19 hr191=>?_)
      exact Ae ⟨⟨zq5,zq6⟩,(Ad hc hr18c)⟩
     ·exact Ae ⟨⟨zq5,zq6⟩,(Ad hc hr18c)⟩
    ·have hd56:=of_decide_eq_false hb56
     exact Ae ⟨⟨zq5,zq6⟩,(Ad hc hr7c)⟩
   ·exact Ae ⟨⟨zq5,zq6⟩,(Ad hc hr7c)⟩
 ·refine Ag (Bz _ (Ad hc hr5c) zq4) (fun r20 hr20c=>?_)
  refine An (fun hb67=>?_) (fun hb67=>?_)
  ·refine Ag (Bh _ (1) (4294967295) (Ad hc hr20c) zq3 zq3) (fun r21 ⟨⟨hr211,hr212⟩,hr21c⟩=>?_)
   refine Ag (D8 _) (fun r22 hr221=>?_)
   refine Ag (Tc _ _) (fun r23 hr231=>?_)
   refine Ag (Bh _ (-1) (1000005) (Ad hc hr21c) zq3 zq3) (fun r24 ⟨⟨hr241,hr242⟩,hr24c⟩=>?_)
   refine An (fun hb72=>?_) (fun hb72=>?_)
   ·have hd72:=eq_of_beq hb72
    refine An (fun hb74=>?_) (fun hb74=>?_)
    ·have hd74:=of_decide_eq_true hb74
     refine An (fun hb76=>?_) (fun hb76=>?_)
     ·have hd76:=eq_of_beq hb76
      refine An (fun hb78=>?_) (fun hb78=>?_)
      ·have hd78:=of_decide_eq_true hb78
       refine Ag (Bz _ (Ad hc hr24c) zq4) (fun r25 hr25c=>?_)
       refine An (fun hb81=>?_) (fun hb81=>?_)
       ·refine Ag (D8 _) (fun r26 hr261=>?_)
        exact Ae ⟨⟨zq5,zq6⟩,(Ad hc hr25c)⟩
       ·exact Ae ⟨⟨zq5,zq6⟩,(Ad hc hr25c)⟩
      ·have hd78:=of_decide_eq_false hb78
       exact Ae ⟨⟨zq5,zq6⟩,(Ad hc hr24c)⟩
     ·exact Ae ⟨⟨zq5,zq6⟩,(Ad hc hr24c)⟩
    ·have hd74:=of_decide_eq_false hb74
     refine An (fun hb89=>?_) (fun hb89=>?_)
     ·have hd89:=eq_of_beq hb89
      refine An (fun hb91=>?_) (fun hb91=>?_)
      ·have hd91:=of_decide_eq_true hb91
       refine Ag (Bz _ (Ad hc hr24c) zq4) (fun r27 hr27c=>?_)
       refine An (fun hb94=>?_) (fun hb94=>?_)
       ·refine Ag (D8 _) (fun r28 hr281=>?_)
        exact Ae ⟨⟨zq5,zq6⟩,(Ad hc hr27c)⟩
       ·exact Ae ⟨⟨zq5,zq6⟩,(Ad hc hr27c)⟩
      ·have hd91:=of_decide_eq_false hb91
       exact Ae ⟨⟨zq5,zq6⟩,(Ad hc hr24c)⟩
     ·exact Ae ⟨⟨zq5,zq6⟩,(Ad hc hr24c)⟩
   ·refine An (fun hb101=>?_) (fun hb101=>?_)
    ·have hd101:=eq_of_beq hb101
     refine An (fun hb103=>?_) (fun hb103=>?_)
     ·have hd103:=of_decide_eq_true hb103
      refine Ag (Bz _ (Ad hc hr24c) zq4) (fun r29 hr29c=>?_)
      refine An (fun hb106=>?_) (fun hb106=>?_)
      ·refine Ag (D8 _) (fun r30 hr301=>?_)
       exact Ae ⟨⟨zq5,zq6⟩,(Ad hc hr29c)⟩
      ·exact Ae ⟨⟨zq5,zq6⟩,(Ad hc hr29c)⟩
     ·have hd103:=of_decide_eq_false hb103
      exact Ae ⟨⟨zq5,zq6⟩,(Ad hc hr24c)⟩
    ·exact Ae ⟨⟨zq5,zq6⟩,(Ad hc hr24c)⟩
  ·refine An (fun hb113=>?_) (fun hb113=>?_)
   ·have hd113:=eq_of_beq hb113
    refine An (fun hb115=>?_) (fun hb115=>?_)
    ·have hd115:=of_decide_eq_true hb115
     refine Ag (Bz _ (Ad hc hr20c) zq4) (fun r31 hr31c=>?_)
     refine An (fun hb118=>?_) (fun hb118=>?_)
     ·refine Ag (D8 _) (fun r32 hr321=>?_)
      exact Ae ⟨⟨zq5,zq6⟩,(Ad hc hr31c)⟩
     ·exact Ae ⟨⟨zq5,zq6⟩,(Ad hc hr31c)⟩
    ·have hd115:=of_decide_eq_false hb115
     exact Ae ⟨⟨zq5,zq6⟩,(Ad hc hr20c)⟩
   ·exact Ae ⟨⟨zq5,zq6⟩,(Ad hc hr20c)⟩
theorem Atb {b:List YB} {a0:Ap} (hc:Bw b a0):Tot (fun r=>(Bf r.1≤900∧wfB r.1.2.1)∧Bw b r.2) (Xv a0):=by
 unfold Xv W3
 simp only[Ah,Ai,Ab,Am,List.length_nil,List.nil_append,Nat.zero_add]
 refine Ag (Ba _ hc zq4) (fun r1 ⟨⟨hr11,hr12⟩,hr1c⟩=>?_)
 refine Ag (Ae1 _ (Ad hc hr1c)) (fun r2 ⟨⟨hr21,hr22⟩,hr2c⟩=>?_)
 refine Ag (Ba _ (Ad hc hr2c) zq4) (fun r3 ⟨⟨hr31,hr32⟩,hr3c⟩=>?_)
 refine An (fun hb3=>?_) (fun hb3=>?_)
 ·have hd3:=eq_of_beq hb3
  refine Ag (Bh _ (-1) (2) (Ad hc hr3c) zq3 zq3) (fun r4 ⟨⟨hr41,hr42⟩,hr4c⟩=>?_)
  exact Ae ⟨⟨zq5,zq6⟩,(Ad hc hr4c)⟩
 ·refine An (fun hb7=>?_) (fun hb7=>?_)
  ·have hd7:=eq_of_beq hb7
   refine Ag (Ch _ (Ad hc hr3c) zq4) (fun r5 ⟨⟨hr51,hr52⟩,hr5c⟩=>?_)
   exact Ae ⟨⟨zq5,zq6⟩,(Ad hc hr5c)⟩
  ·refine An (fun hb11=>?_) (fun hb11=>?_)
   ·have hd11:=eq_of_beq hb11
    refine Ag (Alj (Ad hc hr3c)) (fun r6 ⟨hr61,hr6c⟩=>?_)
    exact Ae ⟨⟨zq5,zq6⟩,(Ad hc hr6c)⟩
   ·refine An (fun hb15=>?_) (fun hb15=>?_)
    ·have hd15:=eq_of_beq hb15
     refine Ag (Alj (Ad hc hr3c)) (fun r7 ⟨hr71,hr7c⟩=>?_)
     exact Ae ⟨⟨zq5,zq6⟩,(Ad hc hr7c)⟩
    ·refine An (fun hb19=>?_) (fun hb19=>?_)
     ·have hd19:=eq_of_beq hb19
      exact Ae ⟨⟨zq5,zq6⟩,(Ad hc hr3c)⟩
     ·refine An (fun hb22=>?_) (fun hb22=>?_)
      ·have hd22:=eq_of_beq hb22
       refine Ag (Bh _ (-2) (1000006) (Ad hc hr3c) zq3 zq3) (fun r8 ⟨⟨hr81,hr82⟩,hr8c⟩=>?_)
       exact Ae ⟨⟨zq5,zq6⟩,(Ad hc hr8c)⟩
      ·refine An (fun hb26=>?_) (fun hb26=>?_)
       ·have hd26:=eq_of_beq hb26
        refine Ag (Bh _ (0) (32) (Ad hc hr3c) zq3 zq3) (fun r9 ⟨⟨hr91,hr92⟩,hr9c⟩=>?_)
        refine Ag (Ch _ (Ad hc hr9c) zq4) (fun r10 ⟨⟨hr101,hr102⟩,hr10c⟩=>?_)
        exact Ae ⟨⟨zq5,zq6⟩,(Ad hc hr10c)⟩
       ·exact Ae ⟨⟨zq5,zq6⟩,(Ad hc hr3c)⟩
end
end Go.Proofs.YtfljmgnghlpapaaGreat

/-
  That the program and the reference answer alike, in plain terms, and that the laws answer true.
-/
import Derived.Test.YtfljmgnghlpapaaGreatL42
namespace Go.Proofs.YtfljmgnghlpapaaGreat
open Go.RowKit
set_option linter.unusedVariables false
set_option linter.unusedSimpArgs false
set_option maxRecDepth 100000
set_option maxHeartbeats 16000000
noncomputable section
theorem Bbg (c:YBs):Tot (fun _=>True) (Lw c):=by rw[An1];exact Ah trivial
theorem A8u (c:Bi):Tot (fun _=>True) (Fi c):=by rw[Ox];exact Ah trivial
theorem Fe (k:YBs):Tot (fun r=>r.1.length≤32) (C0 k (Bq [114,101,107,101,121],())):=by
 have h:=Ah6 k.1 At9
 have e:C0 k (Bq [114,101,107,101,121],())=some (Jl k.1 At9,()):=Ayg k.1
 rw[e];exact Ah zq2
theorem Aia {b:List YB} {a0:Aq} (hc:Bn b a0):Tot (fun r=>r.1.2.1.length=32∧Bn b r.2) (Qd a0):=by
 unfold Qd Afr
 simp only[Ac,Ae,Ab,Al,List.length_nil,List.nil_append,Nat.zero_add]
 refine Aj (A8t _ hc zq7) (fun r1 ⟨hr11,hr1c⟩=>?_)
 refine Aj (Bbf _ (by assumption)) (fun r2 hr21=>?_)
 exact Ah ⟨by assumption,(Ag hc hr1c)⟩
theorem Bbh {b:List YB} {a0:Aq} (hc:Bn b a0):Tot (fun r=>r.1.2.1.length≤32∧Bn b r.2) (Amf a0):=by
 unfold Amf Ak5
 simp only[Ac,Ae,Ab,Al,List.length_nil,List.nil_append,Nat.zero_add]
 refine Aj (Aia hc) (fun r1 ⟨hr11,hr1c⟩=>?_)
 refine Aj (A9 _ (Ag hc hr1c) zq7) (fun r2 ⟨⟨hr21,hr22⟩,hr2c⟩=>?_)
 refine Ar (fun hb2=>?_) (fun hb2=>?_)
 ·have hd2:=eq_of_beq hb2
  refine Aj (Bv _ (-2) (281474976710656) (Ag hc hr2c) zq4 zq4) (fun r3 ⟨⟨hr31,hr32⟩,hr3c⟩=>?_)
  exact Ah ⟨zq8,(Ag hc hr3c)⟩
 ·refine Ar (fun hb6=>?_) (fun hb6=>?_)
  ·have hd6:=eq_of_beq hb6
   refine Aj (A9 _ (Ag hc hr2c) zq7) (fun r4 ⟨⟨hr41,hr42⟩,hr4c⟩=>?_)
   refine Aj (Bv _ (-1) (4294967296) (Ag hc hr4c) zq4 zq4) (fun r5 ⟨⟨hr51,hr52⟩,hr5c⟩=>?_)
   refine Aj (D8 (P:=fun _=>True) zq7 zq7 (fun _ _=>trivial)) (fun e6 _=>?_)
   exact Ah ⟨zq8,(Ag hc hr5c)⟩
  ·refine Ar (fun hb12=>?_) (fun hb12=>?_)
   ·have hd12:=eq_of_beq hb12
    refine Aj (A9 _ (Ag hc hr2c) zq7) (fun r8 ⟨⟨hr81,hr82⟩,hr8c⟩=>?_)
    refine Dh (An zq7) ?_
    refine Dh (An zq7) ?_
    exact Ah ⟨zq8,(Ag hc hr8c)⟩
   ·exact Ah ⟨zq8,(Ag hc hr2c)⟩
theorem Bdw {b:List YB} {a0:Aq} (hc:Bn b a0):Tot (fun r=>En r.1≤150∧Bn b r.2) (Aq6 a0):=by
 unfold Aq6 Aqk
 simp only[Ac,Ae,Ab,Al,List.length_nil,List.nil_append,Nat.zero_add]
 refine Aj (Bv _ (0) (4294967295) hc zq4 zq4) (fun r1 ⟨⟨hr11,hr12⟩,hr1c⟩=>?_)
 refine Aj (Cq _ (Ag hc hr1c) zq7) (fun r2 ⟨⟨hr21,hr22⟩,hr2c⟩=>?_)
 refine Aj (Aap _ _) (fun r3 hr31=>?_)
 refine Aj (Bv _ (0) (281474976710656) (Ag hc hr2c) zq4 zq4) (fun r4 ⟨⟨hr41,hr42⟩,hr4c⟩=>?_)
 refine Aj (Cr _ (Ag hc hr4c) zq7) (fun r5 hr5c=>?_)
 refine Ar (fun hb5=>?_) (fun hb5=>?_)
 ·refine Aj (Aia (Ag hc hr5c)) (fun r6 ⟨hr61,hr6c⟩=>?_)
  exact Ah ⟨zq8,(Ag hc hr6c)⟩
 ·exact Ah ⟨zq8,(Ag hc hr5c)⟩
theorem Aym {b:List YB} {a0:Aq} (hc:Bn b a0):Tot (fun r=>En r.1≤250∧Bn b r.2) (Aai a0):=by
 unfold Aai Ak6
 simp only[Ac,Ae,Ab,Al,List.length_nil,List.nil_append,Nat.zero_add]
 refine Aj (Bdw hc) (fun r1 ⟨hr11,hr1c⟩=>?_)
 refine Aj (A9 _ (Ag hc hr1c) zq7) (fun r2 ⟨⟨hr21,hr22⟩,hr2c⟩=>?_)
 refine Ar (fun hb2=>?_) (fun hb2=>?_)
 ·have hd2:=eq_of_beq hb2
  refine Aj (Bv _ (-1) (4294967296) (Ag hc hr2c) zq4 zq4) (fun r3 ⟨⟨hr31,hr32⟩,hr3c⟩=>?_)
  exact Ah ⟨zq8,(Ag hc hr3c)⟩
 ·refine Ar (fun hb6=>?_) (fun hb6=>?_)
  ·have hd6:=eq_of_beq hb6
   refine Aj (Bv _ (0) (33) (Ag hc hr2c) zq4 zq4) (fun r4 ⟨⟨hr41,hr42⟩,hr4c⟩=>?_)
   refine Aj (Cq _ (Ag hc hr4c) zq7) (fun r5 ⟨⟨hr51,hr52⟩,hr5c⟩=>?_)
   exact Ah ⟨zq8,(Ag hc hr5c)⟩
  ·refine Ar (fun hb11=>?_) (fun hb11=>?_)
   ·have hd11:=eq_of_beq hb11
    refine Aj (Bv _ (-1) (281474976710657) (Ag hc hr2c) zq4 zq4) (fun r6 ⟨⟨hr61,hr62⟩,hr6c⟩=>?_)
    exact Ah ⟨zq8,(Ag hc hr6c)⟩
   ·refine Ar (fun hb15=>?_) (fun hb15=>?_)
    ·have hd15:=eq_of_beq hb15
     refine Aj (Bbh (Ag hc hr2c)) (fun r7 ⟨hr71,hr7c⟩=>?_)
     exact Ah ⟨zq8,(Ag hc hr7c)⟩
    ·exact Ah ⟨zq8,(Ag hc hr2c)⟩
theorem Apu (a0:YI) (a1 a2:YBs) (hl:a1.1.length≤1000):Tot (fun r=>Bs r≤100∧(wfB a1.1→wfB r.2.1)) (Sx a0 a1 a2):=by
 unfold Sx Abk
 simp only[Ac,Ae,Ab,Al,List.length_nil,List.nil_append,Nat.zero_add]
 refine Aj (A2z _ _ _) (fun r1 _=>?_)
 refine Ar (fun hb1=>?_) (fun hb1=>?_)
 ·exact Ah ⟨zq8,fun hw=>by(dsimp only;first|exact Fr|exact hw)⟩
 ·refine Ar (fun hb3=>?_) (fun hb3=>?_)
  ·exact Ah ⟨zq8,fun hw=>by(dsimp only;first|exact Fr|exact hw)⟩
  ·have hd3:=bne_eq_false_iff_eq.1 hb3
   refine Ar (fun hb6=>?_) (fun hb6=>?_)
   ·exact Ah ⟨zq8,fun hw=>by(dsimp only;first|exact Fr|exact hw)⟩
   ·have hd6:=bne_eq_false_iff_eq.1 hb6
    refine Dh (An zq7) ?_
    refine Aj (Aap _ _) (fun r2 hr21=>?_)
    exact Ah ⟨zq8,fun hw=>by(dsimp only;first|exact Fr|exact hw)⟩
theorem Apv {b:List YB} {a0:Aq} (a1:YI) (hc:Bn b a0):Tot (fun r=>(Bs r.1≤400∧wfB r.1.2.1)∧Bn b r.2) (Sy a0 a1):=by
 unfold Sy Abp
 simp only[Ac,Ae,Ab,Al,List.length_nil,List.nil_append,Nat.zero_add]
 refine Aj (Cq _ hc zq7) (fun r1 ⟨⟨hr11,hr12⟩,hr1c⟩=>?_)
 refine Aj (Cq _ (Ag hc hr1c) zq7) (fun r2 ⟨⟨hr21,hr22⟩,hr2c⟩=>?_)
 refine Aj (Apu _ _ _ zq7) (fun r3 ⟨hr31,hr32⟩=>?_)
 refine Aj (Bv _ (0) (281474976710656) (Ag hc hr2c) zq4 zq4) (fun r4 ⟨⟨hr41,hr42⟩,hr4c⟩=>?_)
 refine Aj (Cr _ (Ag hc hr4c) zq7) (fun r5 hr5c=>?_)
 refine Ar (fun hb5=>?_) (fun hb5=>?_)
 ·refine Aj (Aia (Ag hc hr5c)) (fun r6 ⟨hr61,hr6c⟩=>?_)
  refine Aj (Cr _ (Ag hc hr6c) zq7) (fun r7 hr7c=>?_)
  refine Ar (fun hb8=>?_) (fun hb8=>?_)
  ·refine Aj (Bv _ (1) (4294967295) (Ag hc hr7c) zq4 zq4) (fun r8 ⟨⟨hr81,hr82⟩,hr8c⟩=>?_)
   refine Aj (Fe _) (fun r9 hr91=>?_)
   refine Aj (Aap _ _) (fun r10 hr101=>?_)
   refine Aj (Bv _ (-1) (1000005) (Ag hc hr8c) zq4 zq4) (fun r11 ⟨⟨hr111,hr112⟩,hr11c⟩=>?_)
   refine Ar (fun hb13=>?_) (fun hb13=>?_)
   ·have hd13:=eq_of_beq hb13
    refine Ar (fun hb15=>?_) (fun hb15=>?_)
    ·have hd15:=of_decide_eq_true hb15
     refine Ar (fun hb17=>?_) (fun hb17=>?_)
     ·have hd17:=eq_of_beq hb17
      refine Ar (fun hb19=>?_) (fun hb19=>?_)
      ·have hd19:=of_decide_eq_true hb19
       refine Aj (Cr _ (Ag hc hr11c) zq7) (fun r12 hr12c=>?_)
       refine Ar (fun hb22=>?_) (fun hb22=>?_)
       ·refine Aj (Fe _) (fun r13 hr131=>?_)
        exact Ah ⟨⟨zq8,zq9⟩,(Ag hc hr12c)⟩
       ·exact Ah ⟨⟨zq8,zq9⟩,(Ag hc hr12c)⟩
      ·have hd19:=of_decide_eq_false hb19
       exact Ah ⟨⟨zq8,zq9⟩,(Ag hc hr11c)⟩
     ·exact Ah ⟨⟨zq8,zq9⟩,(Ag hc hr11c)⟩
    ·have hd15:=of_decide_eq_false hb15
     refine Ar (fun hb30=>?_) (fun hb30=>?_)
     ·have hd30:=eq_of_beq hb30
      refine Ar (fun hb32=>?_) (fun hb32=>?_)
      ·have hd32:=of_decide_eq_true hb32
       refine Aj (Cr _ (Ag hc hr11c) zq7) (fun r14 hr14c=>?_)
       refine Ar (fun hb35=>?_) (fun hb35=>?_)
       ·refine Aj (Fe _) (fun r15 hr151=>?_)
        exact Ah ⟨⟨zq8,zq9⟩,(Ag hc hr14c)⟩
       ·exact Ah ⟨⟨zq8,zq9⟩,(Ag hc hr14c)⟩
      ·have hd32:=of_decide_eq_false hb32
       exact Ah ⟨⟨zq8,zq9⟩,(Ag hc hr11c)⟩
     ·exact Ah ⟨⟨zq8,zq9⟩,(Ag hc hr11c)⟩
   ·refine Ar (fun hb42=>?_) (fun hb42=>?_)
    ·have hd42:=eq_of_beq hb42
     refine Ar (fun hb44=>?_) (fun hb44=>?_)
     ·have hd44:=of_decide_eq_true hb44
      refine Aj (Cr _ (Ag hc hr11c) zq7) (fun r16 hr16c=>?_)
      refine Ar (fun hb47=>?_) (fun hb47=>?_)
      ·refine Aj (Fe _) (fun r17 hr171=>?_)
       exact Ah ⟨⟨zq8,zq9⟩,(Ag hc hr16c)⟩
      ·exact Ah ⟨⟨zq8,zq9⟩,(Ag hc hr16c)⟩
     ·have hd44:=of_decide_eq_false hb44
      exact Ah ⟨⟨zq8,zq9⟩,(Ag hc hr11c)⟩
    ·exact Ah ⟨⟨zq8,zq9⟩,(Ag hc hr11c)⟩
  ·refine Ar (fun hb54=>?_) (fun hb54=>?_)
   ·have hd54:=eq_of_beq hb54
    refine Ar (fun hb56=>?_) (fun hb56=>?_)
    ·have hd56:=of_decide_eq_true hb56
     refine Aj (Cr _ (Ag hc hr7c) zq7) (fun r18 hr18c=>?_)
     refine Ar (fun hb59=>?_) (fun hb59=>?_)
     ·refine Aj (Fe _) (fun r19 hr191=>?_)
      exact Ah ⟨⟨zq8,zq9⟩,(Ag hc hr18c)⟩
     ·exact Ah ⟨⟨zq8,zq9⟩,(Ag hc hr18c)⟩
    ·have hd56:=of_decide_eq_false hb56
     exact Ah ⟨⟨zq8,zq9⟩,(Ag hc hr7c)⟩
   ·exact Ah ⟨⟨zq8,zq9⟩,(Ag hc hr7c)⟩
 ·refine Aj (Cr _ (Ag hc hr5c) zq7) (fun r20 hr20c=>?_)
  refine Ar (fun hb67=>?_) (fun hb67=>?_)
  ·refine Aj (Bv _ (1) (4294967295) (Ag hc hr20c) zq4 zq4) (fun r21 ⟨⟨hr211,hr212⟩,hr21c⟩=>?_)
   refine Aj (Fe _) (fun r22 hr221=>?_)
   refine Aj (Aap _ _) (fun r23 hr231=>?_)
   refine Aj (Bv _ (-1) (1000005) (Ag hc hr21c) zq4 zq4) (fun r24 ⟨⟨hr241,hr242⟩,hr24c⟩=>?_)
   refine Ar (fun hb72=>?_) (fun hb72=>?_)
   ·have hd72:=eq_of_beq hb72
    refine Ar (fun hb74=>?_) (fun hb74=>?_)
    ·have hd74:=of_decide_eq_true hb74
     refine Ar (fun hb76=>?_) (fun hb76=>?_)
     ·have hd76:=eq_of_beq hb76
      refine Ar (fun hb78=>?_) (fun hb78=>?_)
      ·have hd78:=of_decide_eq_true hb78
       refine Aj (Cr _ (Ag hc hr24c) zq7) (fun r25 hr25c=>?_)
       refine Ar (fun hb81=>?_) (fun hb81=>?_)
       ·refine Aj (Fe _) (fun r26 hr261=>?_)
        exact Ah ⟨⟨zq8,zq9⟩,(Ag hc hr25c)⟩
       ·exact Ah ⟨⟨zq8,zq9⟩,(Ag hc hr25c)⟩
      ·have hd78:=of_decide_eq_false hb78
       exact Ah ⟨⟨zq8,zq9⟩,(Ag hc hr24c)⟩
     ·exact Ah ⟨⟨zq8,zq9⟩,(Ag hc hr24c)⟩
    ·have hd74:=of_decide_eq_false hb74
     refine Ar (fun hb89=>?_) (fun hb89=>?_)
     ·have hd89:=eq_of_beq hb89
      refine Ar (fun hb91=>?_) (fun hb91=>?_)
      ·have hd91:=of_decide_eq_true hb91
       refine Aj (Cr _ (Ag hc hr24c) zq7) (fun r27 hr27c=>?_)
       refine Ar (fun hb94=>?_) (fun hb94=>?_)
       ·refine Aj (Fe _) (fun r28 hr281=>?_)
        exact Ah ⟨⟨zq8,zq9⟩,(Ag hc hr27c)⟩
       ·exact Ah ⟨⟨zq8,zq9⟩,(Ag hc hr27c)⟩
      ·have hd91:=of_decide_eq_false hb91
       exact Ah ⟨⟨zq8,zq9⟩,(Ag hc hr24c)⟩
     ·exact Ah ⟨⟨zq8,zq9⟩,(Ag hc hr24c)⟩
   ·refine Ar (fun hb101=>?_) (fun hb101=>?_)
    ·have hd101:=eq_of_beq hb101
     refine Ar (fun hb103=>?_) (fun hb103=>?_)
     ·have hd103:=of_decide_eq_true hb103
      refine Aj (Cr _ (Ag hc hr24c) zq7) (fun r29 hr29c=>?_)
      refine Ar (fun hb106=>?_) (fun hb106=>?_)
      ·refine Aj (Fe _) (fun r30 hr301=>?_)
       exact Ah ⟨⟨zq8,zq9⟩,(Ag hc hr29c)⟩
      ·exact Ah ⟨⟨zq8,zq9⟩,(Ag hc hr29c)⟩
     ·have hd103:=of_decide_eq_false hb103
      exact Ah ⟨⟨zq8,zq9⟩,(Ag hc hr24c)⟩
    ·exact Ah ⟨⟨zq8,zq9⟩,(Ag hc hr24c)⟩
  ·refine Ar (fun hb113=>?_) (fun hb113=>?_)
   ·have hd113:=eq_of_beq hb113
    refine Ar (fun hb115=>?_) (fun hb115=>?_)
    ·have hd115:=of_decide_eq_true hb115
     refine Aj (Cr _ (Ag hc hr20c) zq7) (fun r31 hr31c=>?_)
     refine Ar (fun hb118=>?_) (fun hb118=>?_)
     ·refine Aj (Fe _) (fun r32 hr321=>?_)
      exact Ah ⟨⟨zq8,zq9⟩,(Ag hc hr31c)⟩
     ·exact Ah ⟨⟨zq8,zq9⟩,(Ag hc hr31c)⟩
    ·have hd115:=of_decide_eq_false hb115
     exact Ah ⟨⟨zq8,zq9⟩,(Ag hc hr20c)⟩
   ·exact Ah ⟨⟨zq8,zq9⟩,(Ag hc hr20c)⟩
theorem A8v {b:List YB} {a0:Aq} (hc:Bn b a0):Tot (fun r=>(Bs r.1≤900∧wfB r.1.2.1)∧Bn b r.2) (Ahh a0):=by
 unfold Ahh Afy
 simp only[Ac,Ae,Ab,Al,List.length_nil,List.nil_append,Nat.zero_add]
 refine Aj (A9 _ hc zq7) (fun r1 ⟨⟨hr11,hr12⟩,hr1c⟩=>?_)
 refine Aj (Apv _ (Ag hc hr1c)) (fun r2 ⟨⟨hr21,hr22⟩,hr2c⟩=>?_)
 refine Aj (A9 _ (Ag hc hr2c) zq7) (fun r3 ⟨⟨hr31,hr32⟩,hr3c⟩=>?_)
 refine Ar (fun hb3=>?_) (fun hb3=>?_)
 ·have hd3:=eq_of_beq hb3
  refine Aj (Bv _ (-1) (2) (Ag hc hr3c) zq4 zq4) (fun r4 ⟨⟨hr41,hr42⟩,hr4c⟩=>?_)
  exact Ah ⟨⟨zq8,zq9⟩,(Ag hc hr4c)⟩
 ·refine Ar (fun hb7=>?_) (fun hb7=>?_)
  ·have hd7:=eq_of_beq hb7
   refine Aj (Cq _ (Ag hc hr3c) zq7) (fun r5 ⟨⟨hr51,hr52⟩,hr5c⟩=>?_)
   exact Ah ⟨⟨zq8,zq9⟩,(Ag hc hr5c)⟩
  ·refine Ar (fun hb11=>?_) (fun hb11=>?_)
   ·have hd11:=eq_of_beq hb11
    refine Aj (Aym (Ag hc hr3c)) (fun r6 ⟨hr61,hr6c⟩=>?_)
    exact Ah ⟨⟨zq8,zq9⟩,(Ag hc hr6c)⟩
   ·refine Ar (fun hb15=>?_) (fun hb15=>?_)
    ·have hd15:=eq_of_beq hb15
     refine Aj (Aym (Ag hc hr3c)) (fun r7 ⟨hr71,hr7c⟩=>?_)
     exact Ah ⟨⟨zq8,zq9⟩,(Ag hc hr7c)⟩
    ·refine Ar (fun hb19=>?_) (fun hb19=>?_)
     ·have hd19:=eq_of_beq hb19
      exact Ah ⟨⟨zq8,zq9⟩,(Ag hc hr3c)⟩
     ·refine Ar (fun hb22=>?_) (fun hb22=>?_)
      ·have hd22:=eq_of_beq hb22
       refine Aj (Bv _ (-2) (1000006) (Ag hc hr3c) zq4 zq4) (fun r8 ⟨⟨hr81,hr82⟩,hr8c⟩=>?_)
       exact Ah ⟨⟨zq8,zq9⟩,(Ag hc hr8c)⟩
      ·refine Ar (fun hb26=>?_) (fun hb26=>?_)
       ·have hd26:=eq_of_beq hb26
        refine Aj (Bv _ (0) (32) (Ag hc hr3c) zq4 zq4) (fun r9 ⟨⟨hr91,hr92⟩,hr9c⟩=>?_)
        refine Aj (Cq _ (Ag hc hr9c) zq7) (fun r10 ⟨⟨hr101,hr102⟩,hr10c⟩=>?_)
        exact Ah ⟨⟨zq8,zq9⟩,(Ag hc hr10c)⟩
       ·exact Ah ⟨⟨zq8,zq9⟩,(Ag hc hr3c)⟩
end
end Go.Proofs.YtfljmgnghlpapaaGreat

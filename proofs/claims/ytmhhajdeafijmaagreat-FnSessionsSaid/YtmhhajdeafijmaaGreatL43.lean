/-
  That the program and the reference answer alike, in plain terms, and that the laws answer true.
-/
import Derived.Test.YtmhhajdeafijmaaGreatL42
namespace Go.Proofs.YtmhhajdeafijmaaGreat
open Go.RowKit
set_option linter.unusedVariables false
set_option linter.unusedSimpArgs false
set_option maxRecDepth 100000
set_option maxHeartbeats 16000000
noncomputable section
theorem A5t (c:YBs):Tot (fun _=>True) (Pm c):=by rw[Akr];exact Ah trivial
theorem A3j (c:Bu):Tot (fun _=>True) (Iw c):=by rw[Sp];exact Ah trivial
theorem Fk (k:YBs):Tot (fun r=>r.1.length≤32) (Cs k (Cy [114,101,107,101,121],())):=by
 have h:=Aqi k.1 Le
 have e:Cs k (Cy [114,101,107,101,121],())=some (E8 k.1 Le,()):=Z1 k.1
 rw[e];exact Ah zq2
theorem U4 (n:YI):Tot (fun r=>r.1.length≤4) (Ds n):=by
 have e:Ds n=some (Ob n.1,()):=Abs n.1
 rw[e];exact Ah (At4 n.1)
theorem Bz (k:YBs) (r:YI) (sn:YBs) (ep seq kind:YI) (p:YBs) (h1:sn.1.length≤60000000) (h2:p.1.length≤60000000):Tot (fun q=>Ar q.1≤sn.1.length+p.1.length+100∧(wfB sn.1→wfB q.1.2.2.2.1)) (Bh k r sn ep seq kind p):=by
 have e:Bh k r sn ep seq kind p=some (Ev k.1 r.1 sn.1 ep.1 seq.1 kind.1 p.1):=A48 k.1 r.1 sn.1 ep.1 seq.1 kind.1 p.1 zq0 zq0
 have hm:=Ajn k.1 (Da r.1 sn.1 ep.1 seq.1) p.1
 rw[e]
 refine Ah ?_
 unfold Ev
 cases I1 k.1 r.1 sn.1 ep.1 seq.1 kind.1 p.1 with
 |false=>exact⟨by simp[Ar,Ff],fun _=>Gx⟩
 |true=>
  refine⟨?_,fun h=>h⟩
  have ht: ∀m,(Ri k.1 m).length≤16:=fun m=>by unfold Ri;rw[List.length_take];omega
  have:=ht (Cu r.1 (kind.1,0,[],sn.1,0,[],[],ep.1,seq.1,mix k.1 (Da r.1 sn.1 ep.1 seq.1) p.1,Ld,()))
  simp only[cond_true,Ar,List.length_nil]
  omega
theorem A3k {b:List YB} {a0:Az} (hc:B9 b a0):Tot (fun r=>r.1.2.1.length=32∧B9 b r.2) (Q0 a0):=by
 unfold Q0 Va
 simp only[Ae,Ai,Ac,Ak,List.length_nil,List.nil_append,Nat.zero_add]
 refine Ad (Aqn _ hc zq8) (fun r1 ⟨hr11,hr1c⟩=>?_)
 refine Ad (A5s _ (by assumption)) (fun r2 hr21=>?_)
 exact Ah ⟨by assumption,(Ab hc hr1c)⟩
theorem Aml (a0:YI) (a1 a2:YBs) (hl:a1.1.length≤1000):Tot (fun r=>Av r≤100∧(wfB a1.1→wfB r.2.1)) (Ho a0 a1 a2):=by
 unfold Ho Te
 simp only[Ae,Ai,Ac,Ak,List.length_nil,List.nil_append,Nat.zero_add]
 refine Ad (Axr _ _ _) (fun r1 _=>?_)
 refine Ao (fun hb1=>?_) (fun hb1=>?_)
 ·exact Ah ⟨zq9,fun hw=>by(dsimp only;first|exact Gx|exact hw)⟩
 ·refine Ao (fun hb3=>?_) (fun hb3=>?_)
  ·exact Ah ⟨zq9,fun hw=>by(dsimp only;first|exact Gx|exact hw)⟩
  ·have hd3:=bne_eq_false_iff_eq.1 hb3
   refine Ao (fun hb6=>?_) (fun hb6=>?_)
   ·exact Ah ⟨zq9,fun hw=>by(dsimp only;first|exact Gx|exact hw)⟩
   ·have hd6:=bne_eq_false_iff_eq.1 hb6
    refine F9 (Am zq8) ?_
    refine Ad (Pr _ _) (fun r2 hr21=>?_)
    exact Ah ⟨zq9,fun hw=>by(dsimp only;first|exact Gx|exact hw)⟩
theorem A0h {b:List YB} {a0:Az} (a1:YI) (hc:B9 b a0):Tot (fun r=>(Av r.1≤400∧wfB r.1.2.1)∧B9 b r.2) (N6 a0 a1):=by
 unfold N6 Tg
 simp only[Ae,Ai,Ac,Ak,List.length_nil,List.nil_append,Nat.zero_add]
 refine Ad (Cr _ hc zq8) (fun r1 ⟨⟨hr11,hr12⟩,hr1c⟩=>?_)
 refine Ad (Cr _ (Ab hc hr1c) zq8) (fun r2 ⟨⟨hr21,hr22⟩,hr2c⟩=>?_)
 refine Ad (Aml _ _ _ zq8) (fun r3 ⟨hr31,hr32⟩=>?_)
 refine Ad (B7 _ (0) (281474976710656) (Ab hc hr2c) zq4 zq4) (fun r4 ⟨⟨hr41,hr42⟩,hr4c⟩=>?_)
 refine Ad (As _ (Ab hc hr4c) zq8) (fun r5 hr5c=>?_)
 refine Ao (fun hb5=>?_) (fun hb5=>?_)
 ·refine Ad (A3k (Ab hc hr5c)) (fun r6 ⟨hr61,hr6c⟩=>?_)
  refine Ad (As _ (Ab hc hr6c) zq8) (fun r7 hr7c=>?_)
  refine Ao (fun hb8=>?_) (fun hb8=>?_)
  ·refine Ad (B7 _ (1) (4294967295) (Ab hc hr7c) zq4 zq4) (fun r8 ⟨⟨hr81,hr82⟩,hr8c⟩=>?_)
   refine Ad (Fk _) (fun r9 hr91=>?_)
   refine Ad (Pr _ _) (fun r10 hr101=>?_)
   refine Ad (B7 _ (-1) (1000005) (Ab hc hr8c) zq4 zq4) (fun r11 ⟨⟨hr111,hr112⟩,hr11c⟩=>?_)
   refine Ao (fun hb13=>?_) (fun hb13=>?_)
   ·have hd13:=eq_of_beq hb13
    refine Ao (fun hb15=>?_) (fun hb15=>?_)
    ·have hd15:=of_decide_eq_true hb15
     refine Ao (fun hb17=>?_) (fun hb17=>?_)
     ·have hd17:=eq_of_beq hb17
      refine Ao (fun hb19=>?_) (fun hb19=>?_)
      ·have hd19:=of_decide_eq_true hb19
       refine Ad (As _ (Ab hc hr11c) zq8) (fun r12 hr12c=>?_)
       refine Ao (fun hb22=>?_) (fun hb22=>?_)
       ·refine Ad (Fk _) (fun r13 hr131=>?_)
        exact Ah ⟨⟨zq9,Bf⟩,(Ab hc hr12c)⟩
       ·exact Ah ⟨⟨zq9,Bf⟩,(Ab hc hr12c)⟩
      ·have hd19:=of_decide_eq_false hb19
       exact Ah ⟨⟨zq9,Bf⟩,(Ab hc hr11c)⟩
     ·exact Ah ⟨⟨zq9,Bf⟩,(Ab hc hr11c)⟩
    ·have hd15:=of_decide_eq_false hb15
     refine Ao (fun hb30=>?_) (fun hb30=>?_)
     ·have hd30:=eq_of_beq hb30
      refine Ao (fun hb32=>?_) (fun hb32=>?_)
      ·have hd32:=of_decide_eq_true hb32
       refine Ad (As _ (Ab hc hr11c) zq8) (fun r14 hr14c=>?_)
       refine Ao (fun hb35=>?_) (fun hb35=>?_)
       ·refine Ad (Fk _) (fun r15 hr151=>?_)
        exact Ah ⟨⟨zq9,Bf⟩,(Ab hc hr14c)⟩
       ·exact Ah ⟨⟨zq9,Bf⟩,(Ab hc hr14c)⟩
      ·have hd32:=of_decide_eq_false hb32
       exact Ah ⟨⟨zq9,Bf⟩,(Ab hc hr11c)⟩
     ·exact Ah ⟨⟨zq9,Bf⟩,(Ab hc hr11c)⟩
   ·refine Ao (fun hb42=>?_) (fun hb42=>?_)
    ·have hd42:=eq_of_beq hb42
     refine Ao (fun hb44=>?_) (fun hb44=>?_)
     ·have hd44:=of_decide_eq_true hb44
      refine Ad (As _ (Ab hc hr11c) zq8) (fun r16 hr16c=>?_)
      refine Ao (fun hb47=>?_) (fun hb47=>?_)
      ·refine Ad (Fk _) (fun r17 hr171=>?_)
       exact Ah ⟨⟨zq9,Bf⟩,(Ab hc hr16c)⟩
      ·exact Ah ⟨⟨zq9,Bf⟩,(Ab hc hr16c)⟩
     ·have hd44:=of_decide_eq_false hb44
      exact Ah ⟨⟨zq9,Bf⟩,(Ab hc hr11c)⟩
    ·exact Ah ⟨⟨zq9,Bf⟩,(Ab hc hr11c)⟩
  ·refine Ao (fun hb54=>?_) (fun hb54=>?_)
   ·have hd54:=eq_of_beq hb54
    refine Ao (fun hb56=>?_) (fun hb56=>?_)
    ·have hd56:=of_decide_eq_true hb56
     refine Ad (As _ (Ab hc hr7c) zq8) (fun r18 hr18c=>?_)
     refine Ao (fun hb59=>?_) (fun hb59=>?_)
     ·refine Ad (Fk _) (fun r19 hr191=>?_)
      exact Ah ⟨⟨zq9,Bf⟩,(Ab hc hr18c)⟩
     ·exact Ah ⟨⟨zq9,Bf⟩,(Ab hc hr18c)⟩
    ·have hd56:=of_decide_eq_false hb56
     exact Ah ⟨⟨zq9,Bf⟩,(Ab hc hr7c)⟩
   ·exact Ah ⟨⟨zq9,Bf⟩,(Ab hc hr7c)⟩
 ·refine Ad (As _ (Ab hc hr5c) zq8) (fun r20 hr20c=>?_)
  refine Ao (fun hb67=>?_) (fun hb67=>?_)
  ·refine Ad (B7 _ (1) (4294967295) (Ab hc hr20c) zq4 zq4) (fun r21 ⟨⟨hr211,hr212⟩,hr21c⟩=>?_)
   refine Ad (Fk _) (fun r22 hr221=>?_)
   refine Ad (Pr _ _) (fun r23 hr231=>?_)
   refine Ad (B7 _ (-1) (1000005) (Ab hc hr21c) zq4 zq4) (fun r24 ⟨⟨hr241,hr242⟩,hr24c⟩=>?_)
   refine Ao (fun hb72=>?_) (fun hb72=>?_)
   ·have hd72:=eq_of_beq hb72
    refine Ao (fun hb74=>?_) (fun hb74=>?_)
    ·have hd74:=of_decide_eq_true hb74
     refine Ao (fun hb76=>?_) (fun hb76=>?_)
     ·have hd76:=eq_of_beq hb76
      refine Ao (fun hb78=>?_) (fun hb78=>?_)
      ·have hd78:=of_decide_eq_true hb78
       refine Ad (As _ (Ab hc hr24c) zq8) (fun r25 hr25c=>?_)
       refine Ao (fun hb81=>?_) (fun hb81=>?_)
       ·refine Ad (Fk _) (fun r26 hr261=>?_)
        exact Ah ⟨⟨zq9,Bf⟩,(Ab hc hr25c)⟩
       ·exact Ah ⟨⟨zq9,Bf⟩,(Ab hc hr25c)⟩
      ·have hd78:=of_decide_eq_false hb78
       exact Ah ⟨⟨zq9,Bf⟩,(Ab hc hr24c)⟩
     ·exact Ah ⟨⟨zq9,Bf⟩,(Ab hc hr24c)⟩
    ·have hd74:=of_decide_eq_false hb74
     refine Ao (fun hb89=>?_) (fun hb89=>?_)
     ·have hd89:=eq_of_beq hb89
      refine Ao (fun hb91=>?_) (fun hb91=>?_)
      ·have hd91:=of_decide_eq_true hb91
       refine Ad (As _ (Ab hc hr24c) zq8) (fun r27 hr27c=>?_)
       refine Ao (fun hb94=>?_) (fun hb94=>?_)
       ·refine Ad (Fk _) (fun r28 hr281=>?_)
        exact Ah ⟨⟨zq9,Bf⟩,(Ab hc hr27c)⟩
       ·exact Ah ⟨⟨zq9,Bf⟩,(Ab hc hr27c)⟩
      ·have hd91:=of_decide_eq_false hb91
       exact Ah ⟨⟨zq9,Bf⟩,(Ab hc hr24c)⟩
     ·exact Ah ⟨⟨zq9,Bf⟩,(Ab hc hr24c)⟩
   ·refine Ao (fun hb101=>?_) (fun hb101=>?_)
    ·have hd101:=eq_of_beq hb101
     refine Ao (fun hb103=>?_) (fun hb103=>?_)
     ·have hd103:=of_decide_eq_true hb103
      refine Ad (As _ (Ab hc hr24c) zq8) (fun r29 hr29c=>?_)
      refine Ao (fun hb106=>?_) (fun hb106=>?_)
      ·refine Ad (Fk _) (fun r30 hr301=>?_)
       exact Ah ⟨⟨zq9,Bf⟩,(Ab hc hr29c)⟩
      ·exact Ah ⟨⟨zq9,Bf⟩,(Ab hc hr29c)⟩
     ·have hd103:=of_decide_eq_false hb103
      exact Ah ⟨⟨zq9,Bf⟩,(Ab hc hr24c)⟩
    ·exact Ah ⟨⟨zq9,Bf⟩,(Ab hc hr24c)⟩
  ·refine Ao (fun hb113=>?_) (fun hb113=>?_)
   ·have hd113:=eq_of_beq hb113
    refine Ao (fun hb115=>?_) (fun hb115=>?_)
    ·have hd115:=of_decide_eq_true hb115
     refine Ad (As _ (Ab hc hr20c) zq8) (fun r31 hr31c=>?_)
     refine Ao (fun hb118=>?_) (fun hb118=>?_)
     ·refine Ad (Fk _) (fun r32 hr321=>?_)
      exact Ah ⟨⟨zq9,Bf⟩,(Ab hc hr31c)⟩
     ·exact Ah ⟨⟨zq9,Bf⟩,(Ab hc hr31c)⟩
    ·have hd115:=of_decide_eq_false hb115
     exact Ah ⟨⟨zq9,Bf⟩,(Ab hc hr20c)⟩
   ·exact Ah ⟨⟨zq9,Bf⟩,(Ab hc hr20c)⟩
theorem Axs {b:List YB} {a0:Az} (a1:Aj) (hc:B9 b a0) (hn:Av a1≤100000) (hw:wfB a1.2.1):Tot (fun r=>(Ar r.1≤Av a1+200∧wfB r.1.2.2.2.1)∧B9 b r.2) (Q1 a0 a1):=by
 unfold Q1 Wl
 simp only[Ae,Ai,Ac,Ak,List.length_nil,List.nil_append,Nat.zero_add]
 refine Ad (A3h hc) (fun r1 ⟨hr11,hr1c⟩=>?_)
 refine Ao (fun hb1=>?_) (fun hb1=>?_)
 ·refine Ad (As _ (Ab hc hr1c) zq8) (fun r2 hr2c=>?_)
  refine Ao (fun hb3=>?_) (fun hb3=>?_)
  ·refine Ao (fun hb4=>?_) (fun hb4=>?_)
   ·have hd4:=of_decide_eq_true hb4
    refine Ad (As _ (Ab hc hr2c) zq8) (fun r3 hr3c=>?_)
    refine Ao (fun hb7=>?_) (fun hb7=>?_)
    ·refine Ad (Pr _ _) (fun r4 hr41=>?_)
     refine Ad (B7 _ (-1) (5) (Ab hc hr3c) zq4 zq4) (fun r5 ⟨⟨hr51,hr52⟩,hr5c⟩=>?_)
     refine Ao (fun hb10=>?_) (fun hb10=>?_)
     ·have hd10:=of_decide_eq_true hb10
      refine Ad (As _ (Ab hc hr5c) zq8) (fun r6 hr6c=>?_)
      refine Ao (fun hb13=>?_) (fun hb13=>?_)
      ·refine Ad (Bz _ _ _ _ _ _ _ zq8 zq8) (fun r7 ⟨hr71,hr72⟩=>?_)
       refine Ad (As _ (Ab hc hr6c) zq8) (fun r8 hr8c=>?_)
       refine Ao (fun hb16=>?_) (fun hb16=>?_)
       ·refine Ad (Bo _ (Ab hc hr8c) zq8 Eg) (fun r9 ⟨⟨hr91,hr92⟩,hr9c⟩=>?_)
        exact Ah ⟨⟨zq9,Bf⟩,(Ab hc hr9c)⟩
       ·exact Ah ⟨⟨zq9,Bf⟩,(Ab hc hr8c)⟩
      ·refine Ad (Bz _ _ _ _ _ _ _ zq8 zq8) (fun r10 ⟨hr101,hr102⟩=>?_)
       refine Ad (As _ (Ab hc hr6c) zq8) (fun r11 hr11c=>?_)
       refine Ao (fun hb22=>?_) (fun hb22=>?_)
       ·refine Ad (Bo _ (Ab hc hr11c) zq8 Eg) (fun r12 ⟨⟨hr121,hr122⟩,hr12c⟩=>?_)
        exact Ah ⟨⟨zq9,Bf⟩,(Ab hc hr12c)⟩
       ·exact Ah ⟨⟨zq9,Bf⟩,(Ab hc hr11c)⟩
     ·have hd10:=of_decide_eq_false hb10
      refine Ad (As _ (Ab hc hr5c) zq8) (fun r13 hr13c=>?_)
      refine Ao (fun hb28=>?_) (fun hb28=>?_)
      ·refine Ad (Bz _ _ _ _ _ _ _ zq8 zq8) (fun r14 ⟨hr141,hr142⟩=>?_)
       refine Ad (As _ (Ab hc hr13c) zq8) (fun r15 hr15c=>?_)
       refine Ao (fun hb31=>?_) (fun hb31=>?_)
       ·refine Ad (Bo _ (Ab hc hr15c) zq8 Eg) (fun r16 ⟨⟨hr161,hr162⟩,hr16c⟩=>?_)
        exact Ah ⟨⟨zq9,Bf⟩,(Ab hc hr16c)⟩
       ·exact Ah ⟨⟨zq9,Bf⟩,(Ab hc hr15c)⟩
      ·refine Ad (Bz _ _ _ _ _ _ _ zq8 zq8) (fun r17 ⟨hr171,hr172⟩=>?_)
       refine Ad (As _ (Ab hc hr13c) zq8) (fun r18 hr18c=>?_)
       refine Ao (fun hb37=>?_) (fun hb37=>?_)
       ·refine Ad (Bo _ (Ab hc hr18c) zq8 Eg) (fun r19 ⟨⟨hr191,hr192⟩,hr19c⟩=>?_)
        exact Ah ⟨⟨zq9,Bf⟩,(Ab hc hr19c)⟩
       ·exact Ah ⟨⟨zq9,Bf⟩,(Ab hc hr18c)⟩
    ·refine Ad (B7 _ (-1) (5) (Ab hc hr3c) zq4 zq4) (fun r20 ⟨⟨hr201,hr202⟩,hr20c⟩=>?_)
     refine Ao (fun hb42=>?_) (fun hb42=>?_)
     ·have hd42:=of_decide_eq_true hb42
      refine Ad (As _ (Ab hc hr20c) zq8) (fun r21 hr21c=>?_)
      refine Ao (fun hb45=>?_) (fun hb45=>?_)
      ·refine Ad (Bz _ _ _ _ _ _ _ zq8 zq8) (fun r22 ⟨hr221,hr222⟩=>?_)
       refine Ad (As _ (Ab hc hr21c) zq8) (fun r23 hr23c=>?_)
       refine Ao (fun hb48=>?_) (fun hb48=>?_)
       ·refine Ad (Bo _ (Ab hc hr23c) zq8 Eg) (fun r24 ⟨⟨hr241,hr242⟩,hr24c⟩=>?_)
        exact Ah ⟨⟨zq9,Bf⟩,(Ab hc hr24c)⟩
       ·exact Ah ⟨⟨zq9,Bf⟩,(Ab hc hr23c)⟩
      ·refine Ad (Bz _ _ _ _ _ _ _ zq8 zq8) (fun r25 ⟨hr251,hr252⟩=>?_)
       refine Ad (As _ (Ab hc hr21c) zq8) (fun r26 hr26c=>?_)
       refine Ao (fun hb54=>?_) (fun hb54=>?_)
       ·refine Ad (Bo _ (Ab hc hr26c) zq8 Eg) (fun r27 ⟨⟨hr271,hr272⟩,hr27c⟩=>?_)
        exact Ah ⟨⟨zq9,Bf⟩,(Ab hc hr27c)⟩
       ·exact Ah ⟨⟨zq9,Bf⟩,(Ab hc hr26c)⟩
     ·have hd42:=of_decide_eq_false hb42
      refine Ad (As _ (Ab hc hr20c) zq8) (fun r28 hr28c=>?_)
      refine Ao (fun hb60=>?_) (fun hb60=>?_)
      ·refine Ad (Bz _ _ _ _ _ _ _ zq8 zq8) (fun r29 ⟨hr291,hr292⟩=>?_)
       refine Ad (As _ (Ab hc hr28c) zq8) (fun r30 hr30c=>?_)
       refine Ao (fun hb63=>?_) (fun hb63=>?_)
       ·refine Ad (Bo _ (Ab hc hr30c) zq8 Eg) (fun r31 ⟨⟨hr311,hr312⟩,hr31c⟩=>?_)
        exact Ah ⟨⟨zq9,Bf⟩,(Ab hc hr31c)⟩
       ·exact Ah ⟨⟨zq9,Bf⟩,(Ab hc hr30c)⟩
      ·refine Ad (Bz _ _ _ _ _ _ _ zq8 zq8) (fun r32 ⟨hr321,hr322⟩=>?_)
       refine Ad (As _ (Ab hc hr28c) zq8) (fun r33 hr33c=>?_)
       refine Ao (fun hb69=>?_) (fun hb69=>?_)
       ·refine Ad (Bo _ (Ab hc hr33c) zq8 Eg) (fun r34 ⟨⟨hr341,hr342⟩,hr34c⟩=>?_)
        exact Ah ⟨⟨zq9,Bf⟩,(Ab hc hr34c)⟩
       ·exact Ah ⟨⟨zq9,Bf⟩,(Ab hc hr33c)⟩
   ·have hd4:=of_decide_eq_false hb4
    refine Ad (B7 _ (-1) (5) (Ab hc hr2c) zq4 zq4) (fun r35 ⟨⟨hr351,hr352⟩,hr35c⟩=>?_)
    refine Ao (fun hb75=>?_) (fun hb75=>?_)
    ·have hd75:=of_decide_eq_true hb75
     refine Ad (As _ (Ab hc hr35c) zq8) (fun r36 hr36c=>?_)
     refine Ao (fun hb78=>?_) (fun hb78=>?_)
     ·refine Ad (Bz _ _ _ _ _ _ _ zq8 zq8) (fun r37 ⟨hr371,hr372⟩=>?_)
      refine Ad (As _ (Ab hc hr36c) zq8) (fun r38 hr38c=>?_)
      refine Ao (fun hb81=>?_) (fun hb81=>?_)
      ·refine Ad (Bo _ (Ab hc hr38c) zq8 Eg) (fun r39 ⟨⟨hr391,hr392⟩,hr39c⟩=>?_)
       exact Ah ⟨⟨zq9,Bf⟩,(Ab hc hr39c)⟩
      ·exact Ah ⟨⟨zq9,Bf⟩,(Ab hc hr38c)⟩
     ·refine Ad (Bz _ _ _ _ _ _ _ zq8 zq8) (fun r40 ⟨hr401,hr402⟩=>?_)
      refine Ad (As _ (Ab hc hr36c) zq8) (fun r41 hr41c=>?_)
      refine Ao (fun hb87=>?_) (fun hb87=>?_)
      ·refine Ad (Bo _ (Ab hc hr41c) zq8 Eg) (fun r42 ⟨⟨hr421,hr422⟩,hr42c⟩=>?_)
       exact Ah ⟨⟨zq9,Bf⟩,(Ab hc hr42c)⟩
      ·exact Ah ⟨⟨zq9,Bf⟩,(Ab hc hr41c)⟩
    ·have hd75:=of_decide_eq_false hb75
     refine Ad (As _ (Ab hc hr35c) zq8) (fun r43 hr43c=>?_)
     refine Ao (fun hb93=>?_) (fun hb93=>?_)
     ·refine Ad (Bz _ _ _ _ _ _ _ zq8 zq8) (fun r44 ⟨hr441,hr442⟩=>?_)
      refine Ad (As _ (Ab hc hr43c) zq8) (fun r45 hr45c=>?_)
      refine Ao (fun hb96=>?_) (fun hb96=>?_)
      ·refine Ad (Bo _ (Ab hc hr45c) zq8 Eg) (fun r46 ⟨⟨hr461,hr462⟩,hr46c⟩=>?_)
       exact Ah ⟨⟨zq9,Bf⟩,(Ab hc hr46c)⟩
      ·exact Ah ⟨⟨zq9,Bf⟩,(Ab hc hr45c)⟩
     ·refine Ad (Bz _ _ _ _ _ _ _ zq8 zq8) (fun r47 ⟨hr471,hr472⟩=>?_)
      refine Ad (As _ (Ab hc hr43c) zq8) (fun r48 hr48c=>?_)
      refine Ao (fun hb102=>?_) (fun hb102=>?_)
      ·refine Ad (Bo _ (Ab hc hr48c) zq8 Eg) (fun r49 ⟨⟨hr491,hr492⟩,hr49c⟩=>?_)
       exact Ah ⟨⟨zq9,Bf⟩,(Ab hc hr49c)⟩
      ·exact Ah ⟨⟨zq9,Bf⟩,(Ab hc hr48c)⟩
  ·refine Ao (fun hb106=>?_) (fun hb106=>?_)
   ·have hd106:=of_decide_eq_true hb106
    refine Ad (As _ (Ab hc hr2c) zq8) (fun r50 hr50c=>?_)
    refine Ao (fun hb109=>?_) (fun hb109=>?_)
    ·refine Ad (Pr _ _) (fun r51 hr511=>?_)
     refine Ad (B7 _ (-1) (5) (Ab hc hr50c) zq4 zq4) (fun r52 ⟨⟨hr521,hr522⟩,hr52c⟩=>?_)
     refine Ao (fun hb112=>?_) (fun hb112=>?_)
     ·have hd112:=of_decide_eq_true hb112
      refine Ad (As _ (Ab hc hr52c) zq8) (fun r53 hr53c=>?_)
      refine Ao (fun hb115=>?_) (fun hb115=>?_)
      ·refine Ad (Bz _ _ _ _ _ _ _ zq8 zq8) (fun r54 ⟨hr541,hr542⟩=>?_)
       refine Ad (As _ (Ab hc hr53c) zq8) (fun r55 hr55c=>?_)
       refine Ao (fun hb118=>?_) (fun hb118=>?_)
       ·refine Ad (Bo _ (Ab hc hr55c) zq8 Eg) (fun r56 ⟨⟨hr561,hr562⟩,hr56c⟩=>?_)
        exact Ah ⟨⟨zq9,Bf⟩,(Ab hc hr56c)⟩
       ·exact Ah ⟨⟨zq9,Bf⟩,(Ab hc hr55c)⟩
      ·refine Ad (Bz _ _ _ _ _ _ _ zq8 zq8) (fun r57 ⟨hr571,hr572⟩=>?_)
       refine Ad (As _ (Ab hc hr53c) zq8) (fun r58 hr58c=>?_)
       refine Ao (fun hb124=>?_) (fun hb124=>?_)
       ·refine Ad (Bo _ (Ab hc hr58c) zq8 Eg) (fun r59 ⟨⟨hr591,hr592⟩,hr59c⟩=>?_)
        exact Ah ⟨⟨zq9,Bf⟩,(Ab hc hr59c)⟩
       ·exact Ah ⟨⟨zq9,Bf⟩,(Ab hc hr58c)⟩
     ·have hd112:=of_decide_eq_false hb112
      refine Ad (As _ (Ab hc hr52c) zq8) (fun r60 hr60c=>?_)
      refine Ao (fun hb130=>?_) (fun hb130=>?_)
      ·refine Ad (Bz _ _ _ _ _ _ _ zq8 zq8) (fun r61 ⟨hr611,hr612⟩=>?_)
       refine Ad (As _ (Ab hc hr60c) zq8) (fun r62 hr62c=>?_)
       refine Ao (fun hb133=>?_) (fun hb133=>?_)
       ·refine Ad (Bo _ (Ab hc hr62c) zq8 Eg) (fun r63 ⟨⟨hr631,hr632⟩,hr63c⟩=>?_)
        exact Ah ⟨⟨zq9,Bf⟩,(Ab hc hr63c)⟩
       ·exact Ah ⟨⟨zq9,Bf⟩,(Ab hc hr62c)⟩
      ·refine Ad (Bz _ _ _ _ _ _ _ zq8 zq8) (fun r64 ⟨hr641,hr642⟩=>?_)
       refine Ad (As _ (Ab hc hr60c) zq8) (fun r65 hr65c=>?_)
       refine Ao (fun hb139=>?_) (fun hb139=>?_)
       ·refine Ad (Bo _ (Ab hc hr65c) zq8 Eg) (fun r66 ⟨⟨hr661,hr662⟩,hr66c⟩=>?_)
        exact Ah ⟨⟨zq9,Bf⟩,(Ab hc hr66c)⟩
       ·exact Ah ⟨⟨zq9,Bf⟩,(Ab hc hr65c)⟩
    ·refine Ad (B7 _ (-1) (5) (Ab hc hr50c) zq4 zq4) (fun r67 ⟨⟨hr671,hr672⟩,hr67c⟩=>?_)
     refine Ao (fun hb144=>?_) (fun hb144=>?_)
     ·have hd144:=of_decide_eq_true hb144
      refine Ad (As _ (Ab hc hr67c) zq8) (fun r68 hr68c=>?_)
      refine Ao (fun hb147=>?_) (fun hb147=>?_)
      ·refine Ad (Bz _ _ _ _ _ _ _ zq8 zq8) (fun r69 ⟨hr691,hr692⟩=>?_)
       refine Ad (As _ (Ab hc hr68c) zq8) (fun r70 hr70c=>?_)
       refine Ao (fun hb150=>?_) (fun hb150=>?_)
       ·refine Ad (Bo _ (Ab hc hr70c) zq8 Eg) (fun r71 ⟨⟨hr711,hr712⟩,hr71c⟩=>?_)
        exact Ah ⟨⟨zq9,Bf⟩,(Ab hc hr71c)⟩
       ·exact Ah ⟨⟨zq9,Bf⟩,(Ab hc hr70c)⟩
      ·refine Ad (Bz _ _ _ _ _ _ _ zq8 zq8) (fun r72 ⟨hr721,hr722⟩=>?_)
       refine Ad (As _ (Ab hc hr68c) zq8) (fun r73 hr73c=>?_)
       refine Ao (fun hb156=>?_) (fun hb156=>?_)
       ·refine Ad (Bo _ (Ab hc hr73c) zq8 Eg) (fun r74 ⟨⟨hr741,hr742⟩,hr74c⟩=>?_)
        exact Ah ⟨⟨zq9,Bf⟩,(Ab hc hr74c)⟩
       ·exact Ah ⟨⟨zq9,Bf⟩,(Ab hc hr73c)⟩
     ·have hd144:=of_decide_eq_false hb144
      refine Ad (As _ (Ab hc hr67c) zq8) (fun r75 hr75c=>?_)
      refine Ao (fun hb162=>?_) (fun hb162=>?_)
      ·refine Ad (Bz _ _ _ _ _ _ _ zq8 zq8) (fun r76 ⟨hr761,hr762⟩=>?_)
       refine Ad (As _ (Ab hc hr75c) zq8) (fun r77 hr77c=>?_)
       refine Ao (fun hb165=>?_) (fun hb165=>?_)
       ·refine Ad (Bo _ (Ab hc hr77c) zq8 Eg) (fun r78 ⟨⟨hr781,hr782⟩,hr78c⟩=>?_)
        exact Ah ⟨⟨zq9,Bf⟩,(Ab hc hr78c)⟩
       ·exact Ah ⟨⟨zq9,Bf⟩,(Ab hc hr77c)⟩
      ·refine Ad (Bz _ _ _ _ _ _ _ zq8 zq8) (fun r79 ⟨hr791,hr792⟩=>?_)
       refine Ad (As _ (Ab hc hr75c) zq8) (fun r80 hr80c=>?_)
       refine Ao (fun hb171=>?_) (fun hb171=>?_)
       ·refine Ad (Bo _ (Ab hc hr80c) zq8 Eg) (fun r81 ⟨⟨hr811,hr812⟩,hr81c⟩=>?_)
        exact Ah ⟨⟨zq9,Bf⟩,(Ab hc hr81c)⟩
       ·exact Ah ⟨⟨zq9,Bf⟩,(Ab hc hr80c)⟩
   ·have hd106:=of_decide_eq_false hb106
    refine Ad (B7 _ (-1) (5) (Ab hc hr2c) zq4 zq4) (fun r82 ⟨⟨hr821,hr822⟩,hr82c⟩=>?_)
    refine Ao (fun hb177=>?_) (fun hb177=>?_)
    ·have hd177:=of_decide_eq_true hb177
     refine Ad (As _ (Ab hc hr82c) zq8) (fun r83 hr83c=>?_)
     refine Ao (fun hb180=>?_) (fun hb180=>?_)
     ·refine Ad (Bz _ _ _ _ _ _ _ zq8 zq8) (fun r84 ⟨hr841,hr842⟩=>?_)
      refine Ad (As _ (Ab hc hr83c) zq8) (fun r85 hr85c=>?_)
      refine Ao (fun hb183=>?_) (fun hb183=>?_)
      ·refine Ad (Bo _ (Ab hc hr85c) zq8 Eg) (fun r86 ⟨⟨hr861,hr862⟩,hr86c⟩=>?_)
       exact Ah ⟨⟨zq9,Bf⟩,(Ab hc hr86c)⟩
      ·exact Ah ⟨⟨zq9,Bf⟩,(Ab hc hr85c)⟩
     ·refine Ad (Bz _ _ _ _ _ _ _ zq8 zq8) (fun r87 ⟨hr871,hr872⟩=>?_)
      refine Ad (As _ (Ab hc hr83c) zq8) (fun r88 hr88c=>?_)
      refine Ao (fun hb189=>?_) (fun hb189=>?_)
      ·refine Ad (Bo _ (Ab hc hr88c) zq8 Eg) (fun r89 ⟨⟨hr891,hr892⟩,hr89c⟩=>?_)
       exact Ah ⟨⟨zq9,Bf⟩,(Ab hc hr89c)⟩
      ·exact Ah ⟨⟨zq9,Bf⟩,(Ab hc hr88c)⟩
    ·have hd177:=of_decide_eq_false hb177
     refine Ad (As _ (Ab hc hr82c) zq8) (fun r90 hr90c=>?_)
     refine Ao (fun hb195=>?_) (fun hb195=>?_)
     ·refine Ad (Bz _ _ _ _ _ _ _ zq8 zq8) (fun r91 ⟨hr911,hr912⟩=>?_)
      refine Ad (As _ (Ab hc hr90c) zq8) (fun r92 hr92c=>?_)
      refine Ao (fun hb198=>?_) (fun hb198=>?_)
      ·refine Ad (Bo _ (Ab hc hr92c) zq8 Eg) (fun r93 ⟨⟨hr931,hr932⟩,hr93c⟩=>?_)
       exact Ah ⟨⟨zq9,Bf⟩,(Ab hc hr93c)⟩
      ·exact Ah ⟨⟨zq9,Bf⟩,(Ab hc hr92c)⟩
     ·refine Ad (Bz _ _ _ _ _ _ _ zq8 zq8) (fun r94 ⟨hr941,hr942⟩=>?_)
      refine Ad (As _ (Ab hc hr90c) zq8) (fun r95 hr95c=>?_)
      refine Ao (fun hb204=>?_) (fun hb204=>?_)
      ·refine Ad (Bo _ (Ab hc hr95c) zq8 Eg) (fun r96 ⟨⟨hr961,hr962⟩,hr96c⟩=>?_)
       exact Ah ⟨⟨zq9,Bf⟩,(Ab hc hr96c)⟩
      ·exact Ah ⟨⟨zq9,Bf⟩,(Ab hc hr95c)⟩
 ·refine Ao (fun hb208=>?_) (fun hb208=>?_)
  ·have hd208:=of_decide_eq_true hb208
   refine Ad (As _ (Ab hc hr1c) zq8) (fun r97 hr97c=>?_)
   refine Ao (fun hb211=>?_) (fun hb211=>?_)
   ·refine Ad (Pr _ _) (fun r98 hr981=>?_)
    refine Ad (B7 _ (-1) (5) (Ab hc hr97c) zq4 zq4) (fun r99 ⟨⟨hr991,hr992⟩,hr99c⟩=>?_)
    refine Ao (fun hb214=>?_) (fun hb214=>?_)
    ·have hd214:=of_decide_eq_true hb214
     refine Ad (As _ (Ab hc hr99c) zq8) (fun r100 hr100c=>?_)
     refine Ao (fun hb217=>?_) (fun hb217=>?_)
     ·refine Ad (Bz _ _ _ _ _ _ _ zq8 zq8) (fun r101 ⟨hr1011,hr1012⟩=>?_)
      refine Ad (As _ (Ab hc hr100c) zq8) (fun r102 hr102c=>?_)
      refine Ao (fun hb220=>?_) (fun hb220=>?_)
      ·refine Ad (Bo _ (Ab hc hr102c) zq8 Eg) (fun r103 ⟨⟨hr1031,hr1032⟩,hr103c⟩=>?_)
       exact Ah ⟨⟨zq9,Bf⟩,(Ab hc hr103c)⟩
      ·exact Ah ⟨⟨zq9,Bf⟩,(Ab hc hr102c)⟩
     ·refine Ad (Bz _ _ _ _ _ _ _ zq8 zq8) (fun r104 ⟨hr1041,hr1042⟩=>?_)
      refine Ad (As _ (Ab hc hr100c) zq8) (fun r105 hr105c=>?_)
      refine Ao (fun hb226=>?_) (fun hb226=>?_)
      ·refine Ad (Bo _ (Ab hc hr105c) zq8 Eg) (fun r106 ⟨⟨hr1061,hr1062⟩,hr106c⟩=>?_)
       exact Ah ⟨⟨zq9,Bf⟩,(Ab hc hr106c)⟩
      ·exact Ah ⟨⟨zq9,Bf⟩,(Ab hc hr105c)⟩
    ·have hd214:=of_decide_eq_false hb214
     refine Ad (As _ (Ab hc hr99c) zq8) (fun r107 hr107c=>?_)
     refine Ao (fun hb232=>?_) (fun hb232=>?_)
     ·refine Ad (Bz _ _ _ _ _ _ _ zq8 zq8) (fun r108 ⟨hr1081,hr1082⟩=>?_)
      refine Ad (As _ (Ab hc hr107c) zq8) (fun r109 hr109c=>?_)
      refine Ao (fun hb235=>?_) (fun hb235=>?_)
      ·refine Ad (Bo _ (Ab hc hr109c) zq8 Eg) (fun r110 ⟨⟨hr1101,hr1102⟩,hr110c⟩=>?_)
       exact Ah ⟨⟨zq9,Bf⟩,(Ab hc hr110c)⟩
      ·exact Ah ⟨⟨zq9,Bf⟩,(Ab hc hr109c)⟩
     ·refine Ad (Bz _ _ _ _ _ _ _ zq8 zq8) (fun r111 ⟨hr1111,hr1112⟩=>?_)
      refine Ad (As _ (Ab hc hr107c) zq8) (fun r112 hr112c=>?_)
      refine Ao (fun hb241=>?_) (fun hb241=>?_)
      ·refine Ad (Bo _ (Ab hc hr112c) zq8 Eg) (fun r113 ⟨⟨hr1131,hr1132⟩,hr113c⟩=>?_)
       exact Ah ⟨⟨zq9,Bf⟩,(Ab hc hr113c)⟩
      ·exact Ah ⟨⟨zq9,Bf⟩,(Ab hc hr112c)⟩
   ·refine Ad (B7 _ (-1) (5) (Ab hc hr97c) zq4 zq4) (fun r114 ⟨⟨hr1141,hr1142⟩,hr114c⟩=>?_)
    refine Ao (fun hb246=>?_) (fun hb246=>?_)
    ·have hd246:=of_decide_eq_true hb246
     refine Ad (As _ (Ab hc hr114c) zq8) (fun r115 hr115c=>?_)
     refine Ao (fun hb249=>?_) (fun hb249=>?_)
     ·refine Ad (Bz _ _ _ _ _ _ _ zq8 zq8) (fun r116 ⟨hr1161,hr1162⟩=>?_)
      refine Ad (As _ (Ab hc hr115c) zq8) (fun r117 hr117c=>?_)
      refine Ao (fun hb252=>?_) (fun hb252=>?_)
      ·refine Ad (Bo _ (Ab hc hr117c) zq8 Eg) (fun r118 ⟨⟨hr1181,hr1182⟩,hr118c⟩=>?_)
       exact Ah ⟨⟨zq9,Bf⟩,(Ab hc hr118c)⟩
      ·exact Ah ⟨⟨zq9,Bf⟩,(Ab hc hr117c)⟩
     ·refine Ad (Bz _ _ _ _ _ _ _ zq8 zq8) (fun r119 ⟨hr1191,hr1192⟩=>?_)
      refine Ad (As _ (Ab hc hr115c) zq8) (fun r120 hr120c=>?_)
      refine Ao (fun hb258=>?_) (fun hb258=>?_)
      ·refine Ad (Bo _ (Ab hc hr120c) zq8 Eg) (fun r121 ⟨⟨hr1211,hr1212⟩,hr121c⟩=>?_)
       exact Ah ⟨⟨zq9,Bf⟩,(Ab hc hr121c)⟩
      ·exact Ah ⟨⟨zq9,Bf⟩,(Ab hc hr120c)⟩
    ·have hd246:=of_decide_eq_false hb246
     refine Ad (As _ (Ab hc hr114c) zq8) (fun r122 hr122c=>?_)
     refine Ao (fun hb264=>?_) (fun hb264=>?_)
     ·refine Ad (Bz _ _ _ _ _ _ _ zq8 zq8) (fun r123 ⟨hr1231,hr1232⟩=>?_)
      refine Ad (As _ (Ab hc hr122c) zq8) (fun r124 hr124c=>?_)
      refine Ao (fun hb267=>?_) (fun hb267=>?_)
      ·refine Ad (Bo _ (Ab hc hr124c) zq8 Eg) (fun r125 ⟨⟨hr1251,hr1252⟩,hr125c⟩=>?_)
       exact Ah ⟨⟨zq9,Bf⟩,(Ab hc hr125c)⟩
      ·exact Ah ⟨⟨zq9,Bf⟩,(Ab hc hr124c)⟩
     ·refine Ad (Bz _ _ _ _ _ _ _ zq8 zq8) (fun r126 ⟨hr1261,hr1262⟩=>?_)
      refine Ad (As _ (Ab hc hr122c) zq8) (fun r127 hr127c=>?_)
      refine Ao (fun hb273=>?_) (fun hb273=>?_)
      ·refine Ad (Bo _ (Ab hc hr127c) zq8 Eg) (fun r128 ⟨⟨hr1281,hr1282⟩,hr128c⟩=>?_)
       exact Ah ⟨⟨zq9,Bf⟩,(Ab hc hr128c)⟩
      ·exact Ah ⟨⟨zq9,Bf⟩,(Ab hc hr127c)⟩
  ·have hd208:=of_decide_eq_false hb208
   refine Ad (B7 _ (-1) (5) (Ab hc hr1c) zq4 zq4) (fun r129 ⟨⟨hr1291,hr1292⟩,hr129c⟩=>?_)
   refine Ao (fun hb279=>?_) (fun hb279=>?_)
   ·have hd279:=of_decide_eq_true hb279
    refine Ad (As _ (Ab hc hr129c) zq8) (fun r130 hr130c=>?_)
    refine Ao (fun hb282=>?_) (fun hb282=>?_)
    ·refine Ad (Bz _ _ _ _ _ _ _ zq8 zq8) (fun r131 ⟨hr1311,hr1312⟩=>?_)
     refine Ad (As _ (Ab hc hr130c) zq8) (fun r132 hr132c=>?_)
     refine Ao (fun hb285=>?_) (fun hb285=>?_)
     ·refine Ad (Bo _ (Ab hc hr132c) zq8 Eg) (fun r133 ⟨⟨hr1331,hr1332⟩,hr133c⟩=>?_)
      exact Ah ⟨⟨zq9,Bf⟩,(Ab hc hr133c)⟩
     ·exact Ah ⟨⟨zq9,Bf⟩,(Ab hc hr132c)⟩
    ·refine Ad (Bz _ _ _ _ _ _ _ zq8 zq8) (fun r134 ⟨hr1341,hr1342⟩=>?_)
     refine Ad (As _ (Ab hc hr130c) zq8) (fun r135 hr135c=>?_)
     refine Ao (fun hb291=>?_) (fun hb291=>?_)
     ·refine Ad (Bo _ (Ab hc hr135c) zq8 Eg) (fun r136 ⟨⟨hr1361,hr1362⟩,hr136c⟩=>?_)
      exact Ah ⟨⟨zq9,Bf⟩,(Ab hc hr136c)⟩
     ·exact Ah ⟨⟨zq9,Bf⟩,(Ab hc hr135c)⟩
   ·have hd279:=of_decide_eq_false hb279
    refine Ad (As _ (Ab hc hr129c) zq8) (fun r137 hr137c=>?_)
    refine Ao (fun hb297=>?_) (fun hb297=>?_)
    ·refine Ad (Bz _ _ _ _ _ _ _ zq8 zq8) (fun r138 ⟨hr1381,hr1382⟩=>?_)
     refine Ad (As _ (Ab hc hr137c) zq8) (fun r139 hr139c=>?_)
     refine Ao (fun hb300=>?_) (fun hb300=>?_)
     ·refine Ad (Bo _ (Ab hc hr139c) zq8 Eg) (fun r140 ⟨⟨hr1401,hr1402⟩,hr140c⟩=>?_)
      exact Ah ⟨⟨zq9,Bf⟩,(Ab hc hr140c)⟩
     ·exact Ah ⟨⟨zq9,Bf⟩,(Ab hc hr139c)⟩
    ·refine Ad (Bz _ _ _ _ _ _ _ zq8 zq8) (fun r141 ⟨hr1411,hr1412⟩=>?_)
     refine Ad (As _ (Ab hc hr137c) zq8) (fun r142 hr142c=>?_)
     refine Ao (fun hb306=>?_) (fun hb306=>?_)
     ·refine Ad (Bo _ (Ab hc hr142c) zq8 Eg) (fun r143 ⟨⟨hr1431,hr1432⟩,hr143c⟩=>?_)
      exact Ah ⟨⟨zq9,Bf⟩,(Ab hc hr143c)⟩
     ·exact Ah ⟨⟨zq9,Bf⟩,(Ab hc hr142c)⟩
end
end Go.Proofs.YtmhhajdeafijmaaGreat

/-
  That the program and the reference answer alike, in plain terms, and that the laws answer true.
-/
import Derived.Test.YtjlblagmjlmglaaGreatL42
namespace Go.Proofs.YtjlblagmjlmglaaGreat
open Go.RowKit
set_option linter.unusedVariables false
set_option linter.unusedSimpArgs false
set_option maxRecDepth 100000
set_option maxHeartbeats 16000000
noncomputable section
theorem Az0 (c:Ab):Tot (fun _=>True) (K9 c):=by rw[Pf];exact Ak trivial
theorem A78 (c:YBs):Tot (fun _=>True) (K8 c):=by rw[W4];exact Ak trivial
theorem A5k (c:Dk):Tot (fun _=>True) (Ot c):=by rw[Aho];exact Ak trivial
theorem E5 (k:YBs):Tot (fun r=>r.1.length≤32) (Cm k (Ci [114,101,107,101,121],())):=by
 have h:=Ah0 k.1 Alv
 have e:Cm k (Ci [114,101,107,101,121],())=some (Hf k.1 Alv,()):=Av6 k.1
 rw[e];exact Ak zq2
theorem Axt (n:YI):Tot (fun r=>r.1.length≤4) (J2 n):=by
 have e:J2 n=some (Al0 n.1,()):=A19 n.1
 rw[e];exact Ak (A7l n.1)
theorem A9w (k:YBs) (r:YI) (sn:YBs) (ep seq kind:YI) (p:YBs) (h1:sn.1.length≤60000000) (h2:p.1.length≤60000000):Tot (fun q=>Ar q.1≤sn.1.length+p.1.length+100∧(wfB sn.1→wfB q.1.2.2.2.1)) (La k r sn ep seq kind p):=by
 have e:La k r sn ep seq kind p=some (D6 k.1 r.1 sn.1 ep.1 seq.1 kind.1 p.1):=A7d k.1 r.1 sn.1 ep.1 seq.1 kind.1 p.1 zq0 zq0
 have hm:=Alt k.1 (Cp r.1 sn.1 ep.1 seq.1) p.1
 rw[e]
 refine Ak ?_
 unfold D6
 cases H4 k.1 r.1 sn.1 ep.1 seq.1 kind.1 p.1 with
 |false=>exact⟨by simp[Ar,Du],fun _=>Gy⟩
 |true=>
  refine⟨?_,fun h=>h⟩
  have ht: ∀m,(Pb k.1 m).length≤16:=fun m=>by unfold Pb;rw[List.length_take];omega
  have:=ht (Dr r.1 (kind.1,0,[],sn.1,0,[],[],ep.1,seq.1,mix k.1 (Cp r.1 sn.1 ep.1 seq.1) p.1,J4,()))
  simp only[cond_true,Ar,List.length_nil]
  omega
theorem A2e (c:Ab) (h:c.2.2.2.2.2.1.length≤4294967296):Tot (fun _=>True) (Mm c):=by
 unfold Mm Rc
 simp only[Ai,Aj,Ad,Ap,List.length_nil,List.nil_append,Nat.zero_add]
 exact Fd (Ao h) (Ak trivial)
theorem Ah7 {b:List YB} {a0:Aw} (hc:Cd b a0):Tot (fun r=>r.1.2.1.length=32∧Cd b r.2) (O0 a0):=by
 unfold O0 Af6
 simp only[Ai,Aj,Ad,Ap,List.length_nil,List.nil_append,Nat.zero_add]
 refine Am (A5j _ hc zq7) (fun r1 ⟨hr11,hr1c⟩=>?_)
 refine Am (A77 _ (by assumption)) (fun r2 hr21=>?_)
 exact Ak ⟨by assumption,(Ag hc hr1c)⟩
theorem A79 {b:List YB} {a0:Aw} (hc:Cd b a0):Tot (fun r=>r.1.2.1.length≤32∧Cd b r.2) (Ald a0):=by
 unfold Ald Aki
 simp only[Ai,Aj,Ad,Ap,List.length_nil,List.nil_append,Nat.zero_add]
 refine Am (Ah7 hc) (fun r1 ⟨hr11,hr1c⟩=>?_)
 refine Am (Bj _ (Ag hc hr1c) zq7) (fun r2 ⟨⟨hr21,hr22⟩,hr2c⟩=>?_)
 refine As (fun hb2=>?_) (fun hb2=>?_)
 ·have hd2:=eq_of_beq hb2
  refine Am (A7 _ (-2) (281474976710656) (Ag hc hr2c) zq4 zq4) (fun r3 ⟨⟨hr31,hr32⟩,hr3c⟩=>?_)
  exact Ak ⟨zq8,(Ag hc hr3c)⟩
 ·refine As (fun hb6=>?_) (fun hb6=>?_)
  ·have hd6:=eq_of_beq hb6
   refine Am (Bj _ (Ag hc hr2c) zq7) (fun r4 ⟨⟨hr41,hr42⟩,hr4c⟩=>?_)
   refine Am (A7 _ (-1) (4294967296) (Ag hc hr4c) zq4 zq4) (fun r5 ⟨⟨hr51,hr52⟩,hr5c⟩=>?_)
   refine Am (Aey (P:=fun _=>True) zq7 zq7 (fun _ _=>trivial)) (fun e6 _=>?_)
   exact Ak ⟨zq8,(Ag hc hr5c)⟩
  ·refine As (fun hb12=>?_) (fun hb12=>?_)
   ·have hd12:=eq_of_beq hb12
    refine Am (Bj _ (Ag hc hr2c) zq7) (fun r8 ⟨⟨hr81,hr82⟩,hr8c⟩=>?_)
    refine Fd (Ao zq7) ?_
    refine Fd (Ao zq7) ?_
    exact Ak ⟨zq8,(Ag hc hr8c)⟩
   ·exact Ak ⟨zq8,(Ag hc hr2c)⟩
theorem A9x {b:List YB} {a0:Aw} (hc:Cd b a0):Tot (fun r=>Bm r.1≤150∧Cd b r.2) (Apv a0):=by
 unfold Apv Apg
 simp only[Ai,Aj,Ad,Ap,List.length_nil,List.nil_append,Nat.zero_add]
 refine Am (A7 _ (0) (4294967295) hc zq4 zq4) (fun r1 ⟨⟨hr11,hr12⟩,hr1c⟩=>?_)
 refine Am (Ba _ (Ag hc hr1c) zq7) (fun r2 ⟨⟨hr21,hr22⟩,hr2c⟩=>?_)
 refine Am (Aa9 _ _) (fun r3 hr31=>?_)
 refine Am (A7 _ (0) (281474976710656) (Ag hc hr2c) zq4 zq4) (fun r4 ⟨⟨hr41,hr42⟩,hr4c⟩=>?_)
 refine Am (Cz _ (Ag hc hr4c) zq7) (fun r5 hr5c=>?_)
 refine As (fun hb5=>?_) (fun hb5=>?_)
 ·refine Am (Ah7 (Ag hc hr5c)) (fun r6 ⟨hr61,hr6c⟩=>?_)
  exact Ak ⟨zq8,(Ag hc hr6c)⟩
 ·exact Ak ⟨zq8,(Ag hc hr5c)⟩
theorem Awb {b:List YB} {a0:Aw} (hc:Cd b a0):Tot (fun r=>Bm r.1≤250∧Cd b r.2) (Aav a0):=by
 unfold Aav Akj
 simp only[Ai,Aj,Ad,Ap,List.length_nil,List.nil_append,Nat.zero_add]
 refine Am (A9x hc) (fun r1 ⟨hr11,hr1c⟩=>?_)
 refine Am (Bj _ (Ag hc hr1c) zq7) (fun r2 ⟨⟨hr21,hr22⟩,hr2c⟩=>?_)
 refine As (fun hb2=>?_) (fun hb2=>?_)
 ·have hd2:=eq_of_beq hb2
  refine Am (A7 _ (-1) (4294967296) (Ag hc hr2c) zq4 zq4) (fun r3 ⟨⟨hr31,hr32⟩,hr3c⟩=>?_)
  exact Ak ⟨zq8,(Ag hc hr3c)⟩
 ·refine As (fun hb6=>?_) (fun hb6=>?_)
  ·have hd6:=eq_of_beq hb6
   refine Am (A7 _ (0) (33) (Ag hc hr2c) zq4 zq4) (fun r4 ⟨⟨hr41,hr42⟩,hr4c⟩=>?_)
   refine Am (Ba _ (Ag hc hr4c) zq7) (fun r5 ⟨⟨hr51,hr52⟩,hr5c⟩=>?_)
   exact Ak ⟨zq8,(Ag hc hr5c)⟩
  ·refine As (fun hb11=>?_) (fun hb11=>?_)
   ·have hd11:=eq_of_beq hb11
    refine Am (A7 _ (-1) (281474976710657) (Ag hc hr2c) zq4 zq4) (fun r6 ⟨⟨hr61,hr62⟩,hr6c⟩=>?_)
    exact Ak ⟨zq8,(Ag hc hr6c)⟩
   ·refine As (fun hb15=>?_) (fun hb15=>?_)
    ·have hd15:=eq_of_beq hb15
     refine Am (A79 (Ag hc hr2c)) (fun r7 ⟨hr71,hr7c⟩=>?_)
     exact Ak ⟨zq8,(Ag hc hr7c)⟩
    ·exact Ak ⟨zq8,(Ag hc hr2c)⟩
theorem A2f (a0:YI) (a1 a2:YBs) (hl:a1.1.length≤1000):Tot (fun r=>A0 r≤100∧(wfB a1.1→wfB r.2.1)) (Kg a0 a1 a2):=by
 unfold Kg Rf
 simp only[Ai,Aj,Ad,Ap,List.length_nil,List.nil_append,Nat.zero_add]
 refine Am (Qv _ _ _) (fun r1 _=>?_)
 refine As (fun hb1=>?_) (fun hb1=>?_)
 ·exact Ak ⟨zq8,fun hw=>by(dsimp only;first|exact Gy|exact hw)⟩
 ·refine As (fun hb3=>?_) (fun hb3=>?_)
  ·exact Ak ⟨zq8,fun hw=>by(dsimp only;first|exact Gy|exact hw)⟩
  ·have hd3:=bne_eq_false_iff_eq.1 hb3
   refine As (fun hb6=>?_) (fun hb6=>?_)
   ·exact Ak ⟨zq8,fun hw=>by(dsimp only;first|exact Gy|exact hw)⟩
   ·have hd6:=bne_eq_false_iff_eq.1 hb6
    refine Fd (Ao zq7) ?_
    refine Am (Aa9 _ _) (fun r2 hr21=>?_)
    exact Ak ⟨zq8,fun hw=>by(dsimp only;first|exact Gy|exact hw)⟩
theorem Axu (a0:YI) (a1:YBs) (a2:Dk) (hl:a1.1.length≤1000):Tot (fun r=>An r≤1000∧wfB (Cw r).2.1) (Gd a0 a1 a2):=by
 unfold Gd Jy
 simp only[Ai,Aj,Ad,Ap,List.length_nil,List.nil_append,Nat.zero_add]
 refine Am (Qv _ _ _) (fun r1 _=>?_)
 refine As (fun hb1=>?_) (fun hb1=>?_)
 ·exact Ak ⟨zq8,Gy⟩
 ·refine Am (A78 _) (fun r2 _=>?_)
  refine As (fun hb4=>?_) (fun hb4=>?_)
  ·exact Ak ⟨zq8,Gy⟩
  ·refine Am (A5k _) (fun r3 _=>?_)
   refine As (fun hb7=>?_) (fun hb7=>?_)
   ·exact Ak ⟨zq8,Gy⟩
   ·refine Fd (Ao zq7) ?_
    exact Ak ⟨zq8,Gy⟩
theorem A9y (a0:Ab) (a1:YI) (a2:YBs) (hn:An a0≤100000) (hl:a2.1.length≤1000):Tot (fun r=>An r.1≤An a0+a2.1.length∧(wfB (Cw a0).2.1→wfB (Cw r.1).2.1)) (Ge a0 a1 a2):=by
 unfold Ge Pz
 simp only[Ai,Aj,Ad,Ap,List.length_nil,List.nil_append,Nat.zero_add]
 rw[Sp _ zq0]
 simp only[Al]
 refine Am (Az0 _) (fun r2 _=>?_)
 refine As (fun hb3=>?_) (fun hb3=>?_)
 ·exact Ak ⟨zq8,fun hw=>hw⟩
 ·refine Am (Qv _ _ _) (fun r3 _=>?_)
  refine As (fun hb6=>?_) (fun hb6=>?_)
  ·exact Ak ⟨zq8,fun hw=>hw⟩
  ·refine As (fun hb8=>?_) (fun hb8=>?_)
   ·exact Ak ⟨zq8,fun hw=>hw⟩
   ·have hd8:=bne_eq_false_iff_eq.1 hb8
    refine As (fun hb11=>?_) (fun hb11=>?_)
    ·exact Ak ⟨zq8,fun hw=>hw⟩
    ·have hd11:=bne_eq_false_iff_eq.1 hb11
     refine Fd (Ao zq7) ?_
     refine Am (Ph _) (fun r4 _=>?_)
     refine Fd (Ao zq7) ?_
     refine Am (A2e _ zq7) (fun r5 _=>?_)
     exact Ak ⟨zq8,fun hw=>hw⟩
theorem Aop {b:List YB} {a0:Aw} (a1:YI) (hc:Cd b a0):Tot (fun r=>(A0 r.1≤400∧wfB r.1.2.1)∧Cd b r.2) (Rp a0 a1):=by
 unfold Rp Acc
 simp only[Ai,Aj,Ad,Ap,List.length_nil,List.nil_append,Nat.zero_add]
 refine Am (Ba _ hc zq7) (fun r1 ⟨⟨hr11,hr12⟩,hr1c⟩=>?_)
 refine Am (Ba _ (Ag hc hr1c) zq7) (fun r2 ⟨⟨hr21,hr22⟩,hr2c⟩=>?_)
 refine Am (A2f _ _ _ zq7) (fun r3 ⟨hr31,hr32⟩=>?_)
 refine Am (A7 _ (0) (281474976710656) (Ag hc hr2c) zq4 zq4) (fun r4 ⟨⟨hr41,hr42⟩,hr4c⟩=>?_)
 refine Am (Cz _ (Ag hc hr4c) zq7) (fun r5 hr5c=>?_)
 refine As (fun hb5=>?_) (fun hb5=>?_)
 ·refine Am (Ah7 (Ag hc hr5c)) (fun r6 ⟨hr61,hr6c⟩=>?_)
  refine Am (Cz _ (Ag hc hr6c) zq7) (fun r7 hr7c=>?_)
  refine As (fun hb8=>?_) (fun hb8=>?_)
  ·refine Am (A7 _ (1) (4294967295) (Ag hc hr7c) zq4 zq4) (fun r8 ⟨⟨hr81,hr82⟩,hr8c⟩=>?_)
   refine Am (E5 _) (fun r9 hr91=>?_)
   refine Am (Aa9 _ _) (fun r10 hr101=>?_)
   refine Am (A7 _ (-1) (1000005) (Ag hc hr8c) zq4 zq4) (fun r11 ⟨⟨hr111,hr112⟩,hr11c⟩=>?_)
   refine As (fun hb13=>?_) (fun hb13=>?_)
   ·have hd13:=eq_of_beq hb13
    refine As (fun hb15=>?_) (fun hb15=>?_)
    ·have hd15:=of_decide_eq_true hb15
     refine As (fun hb17=>?_) (fun hb17=>?_)
     ·have hd17:=eq_of_beq hb17
      refine As (fun hb19=>?_) (fun hb19=>?_)
      ·have hd19:=of_decide_eq_true hb19
       refine Am (Cz _ (Ag hc hr11c) zq7) (fun r12 hr12c=>?_)
       refine As (fun hb22=>?_) (fun hb22=>?_)
       ·refine Am (E5 _) (fun r13 hr131=>?_)
        exact Ak ⟨⟨zq8,Dd⟩,(Ag hc hr12c)⟩
       ·exact Ak ⟨⟨zq8,Dd⟩,(Ag hc hr12c)⟩
      ·have hd19:=of_decide_eq_false hb19
       exact Ak ⟨⟨zq8,Dd⟩,(Ag hc hr11c)⟩
     ·exact Ak ⟨⟨zq8,Dd⟩,(Ag hc hr11c)⟩
    ·have hd15:=of_decide_eq_false hb15
     refine As (fun hb30=>?_) (fun hb30=>?_)
     ·have hd30:=eq_of_beq hb30
      refine As (fun hb32=>?_) (fun hb32=>?_)
      ·have hd32:=of_decide_eq_true hb32
       refine Am (Cz _ (Ag hc hr11c) zq7) (fun r14 hr14c=>?_)
       refine As (fun hb35=>?_) (fun hb35=>?_)
       ·refine Am (E5 _) (fun r15 hr151=>?_)
        exact Ak ⟨⟨zq8,Dd⟩,(Ag hc hr14c)⟩
       ·exact Ak ⟨⟨zq8,Dd⟩,(Ag hc hr14c)⟩
      ·have hd32:=of_decide_eq_false hb32
       exact Ak ⟨⟨zq8,Dd⟩,(Ag hc hr11c)⟩
     ·exact Ak ⟨⟨zq8,Dd⟩,(Ag hc hr11c)⟩
   ·refine As (fun hb42=>?_) (fun hb42=>?_)
    ·have hd42:=eq_of_beq hb42
     refine As (fun hb44=>?_) (fun hb44=>?_)
     ·have hd44:=of_decide_eq_true hb44
      refine Am (Cz _ (Ag hc hr11c) zq7) (fun r16 hr16c=>?_)
      refine As (fun hb47=>?_) (fun hb47=>?_)
      ·refine Am (E5 _) (fun r17 hr171=>?_)
       exact Ak ⟨⟨zq8,Dd⟩,(Ag hc hr16c)⟩
      ·exact Ak ⟨⟨zq8,Dd⟩,(Ag hc hr16c)⟩
     ·have hd44:=of_decide_eq_false hb44
      exact Ak ⟨⟨zq8,Dd⟩,(Ag hc hr11c)⟩
    ·exact Ak ⟨⟨zq8,Dd⟩,(Ag hc hr11c)⟩
  ·refine As (fun hb54=>?_) (fun hb54=>?_)
   ·have hd54:=eq_of_beq hb54
    refine As (fun hb56=>?_) (fun hb56=>?_)
    ·have hd56:=of_decide_eq_true hb56
     refine Am (Cz _ (Ag hc hr7c) zq7) (fun r18 hr18c=>?_)
     refine As (fun hb59=>?_) (fun hb59=>?_)
     ·refine Am (E5 _) (fun r19 hr191=>?_)
      exact Ak ⟨⟨zq8,Dd⟩,(Ag hc hr18c)⟩
     ·exact Ak ⟨⟨zq8,Dd⟩,(Ag hc hr18c)⟩
    ·have hd56:=of_decide_eq_false hb56
     exact Ak ⟨⟨zq8,Dd⟩,(Ag hc hr7c)⟩
   ·exact Ak ⟨⟨zq8,Dd⟩,(Ag hc hr7c)⟩
 ·refine Am (Cz _ (Ag hc hr5c) zq7) (fun r20 hr20c=>?_)
  refine As (fun hb67=>?_) (fun hb67=>?_)
  ·refine Am (A7 _ (1) (4294967295) (Ag hc hr20c) zq4 zq4) (fun r21 ⟨⟨hr211,hr212⟩,hr21c⟩=>?_)
   refine Am (E5 _) (fun r22 hr221=>?_)
   refine Am (Aa9 _ _) (fun r23 hr231=>?_)
   refine Am (A7 _ (-1) (1000005) (Ag hc hr21c) zq4 zq4) (fun r24 ⟨⟨hr241,hr242⟩,hr24c⟩=>?_)
   refine As (fun hb72=>?_) (fun hb72=>?_)
   ·have hd72:=eq_of_beq hb72
    refine As (fun hb74=>?_) (fun hb74=>?_)
    ·have hd74:=of_decide_eq_true hb74
     refine As (fun hb76=>?_) (fun hb76=>?_)
     ·have hd76:=eq_of_beq hb76
      refine As (fun hb78=>?_) (fun hb78=>?_)
      ·have hd78:=of_decide_eq_true hb78
       refine Am (Cz _ (Ag hc hr24c) zq7) (fun r25 hr25c=>?_)
       refine As (fun hb81=>?_) (fun hb81=>?_)
       ·refine Am (E5 _) (fun r26 hr261=>?_)
        exact Ak ⟨⟨zq8,Dd⟩,(Ag hc hr25c)⟩
       ·exact Ak ⟨⟨zq8,Dd⟩,(Ag hc hr25c)⟩
      ·have hd78:=of_decide_eq_false hb78
       exact Ak ⟨⟨zq8,Dd⟩,(Ag hc hr24c)⟩
     ·exact Ak ⟨⟨zq8,Dd⟩,(Ag hc hr24c)⟩
    ·have hd74:=of_decide_eq_false hb74
     refine As (fun hb89=>?_) (fun hb89=>?_)
     ·have hd89:=eq_of_beq hb89
      refine As (fun hb91=>?_) (fun hb91=>?_)
      ·have hd91:=of_decide_eq_true hb91
       refine Am (Cz _ (Ag hc hr24c) zq7) (fun r27 hr27c=>?_)
       refine As (fun hb94=>?_) (fun hb94=>?_)
       ·refine Am (E5 _) (fun r28 hr281=>?_)
        exact Ak ⟨⟨zq8,Dd⟩,(Ag hc hr27c)⟩
       ·exact Ak ⟨⟨zq8,Dd⟩,(Ag hc hr27c)⟩
      ·have hd91:=of_decide_eq_false hb91
       exact Ak ⟨⟨zq8,Dd⟩,(Ag hc hr24c)⟩
     ·exact Ak ⟨⟨zq8,Dd⟩,(Ag hc hr24c)⟩
   ·refine As (fun hb101=>?_) (fun hb101=>?_)
    ·have hd101:=eq_of_beq hb101
     refine As (fun hb103=>?_) (fun hb103=>?_)
     ·have hd103:=of_decide_eq_true hb103
      refine Am (Cz _ (Ag hc hr24c) zq7) (fun r29 hr29c=>?_)
      refine As (fun hb106=>?_) (fun hb106=>?_)
      ·refine Am (E5 _) (fun r30 hr301=>?_)
       exact Ak ⟨⟨zq8,Dd⟩,(Ag hc hr29c)⟩
      ·exact Ak ⟨⟨zq8,Dd⟩,(Ag hc hr29c)⟩
     ·have hd103:=of_decide_eq_false hb103
      exact Ak ⟨⟨zq8,Dd⟩,(Ag hc hr24c)⟩
    ·exact Ak ⟨⟨zq8,Dd⟩,(Ag hc hr24c)⟩
  ·refine As (fun hb113=>?_) (fun hb113=>?_)
   ·have hd113:=eq_of_beq hb113
    refine As (fun hb115=>?_) (fun hb115=>?_)
    ·have hd115:=of_decide_eq_true hb115
     refine Am (Cz _ (Ag hc hr20c) zq7) (fun r31 hr31c=>?_)
     refine As (fun hb118=>?_) (fun hb118=>?_)
     ·refine Am (E5 _) (fun r32 hr321=>?_)
      exact Ak ⟨⟨zq8,Dd⟩,(Ag hc hr31c)⟩
     ·exact Ak ⟨⟨zq8,Dd⟩,(Ag hc hr31c)⟩
    ·have hd115:=of_decide_eq_false hb115
     exact Ak ⟨⟨zq8,Dd⟩,(Ag hc hr20c)⟩
   ·exact Ak ⟨⟨zq8,Dd⟩,(Ag hc hr20c)⟩
theorem A5l {b:List YB} {a0:Aw} (hc:Cd b a0):Tot (fun r=>(A0 r.1≤900∧wfB r.1.2.1)∧Cd b r.2) (Aha a0):=by
 unfold Aha Af9
 simp only[Ai,Aj,Ad,Ap,List.length_nil,List.nil_append,Nat.zero_add]
 refine Am (Bj _ hc zq7) (fun r1 ⟨⟨hr11,hr12⟩,hr1c⟩=>?_)
 refine Am (Aop _ (Ag hc hr1c)) (fun r2 ⟨⟨hr21,hr22⟩,hr2c⟩=>?_)
 refine Am (Bj _ (Ag hc hr2c) zq7) (fun r3 ⟨⟨hr31,hr32⟩,hr3c⟩=>?_)
 refine As (fun hb3=>?_) (fun hb3=>?_)
 ·have hd3:=eq_of_beq hb3
  refine Am (A7 _ (-1) (2) (Ag hc hr3c) zq4 zq4) (fun r4 ⟨⟨hr41,hr42⟩,hr4c⟩=>?_)
  exact Ak ⟨⟨zq8,Dd⟩,(Ag hc hr4c)⟩
 ·refine As (fun hb7=>?_) (fun hb7=>?_)
  ·have hd7:=eq_of_beq hb7
   refine Am (Ba _ (Ag hc hr3c) zq7) (fun r5 ⟨⟨hr51,hr52⟩,hr5c⟩=>?_)
   exact Ak ⟨⟨zq8,Dd⟩,(Ag hc hr5c)⟩
  ·refine As (fun hb11=>?_) (fun hb11=>?_)
   ·have hd11:=eq_of_beq hb11
    refine Am (Awb (Ag hc hr3c)) (fun r6 ⟨hr61,hr6c⟩=>?_)
    exact Ak ⟨⟨zq8,Dd⟩,(Ag hc hr6c)⟩
   ·refine As (fun hb15=>?_) (fun hb15=>?_)
    ·have hd15:=eq_of_beq hb15
     refine Am (Awb (Ag hc hr3c)) (fun r7 ⟨hr71,hr7c⟩=>?_)
     exact Ak ⟨⟨zq8,Dd⟩,(Ag hc hr7c)⟩
    ·refine As (fun hb19=>?_) (fun hb19=>?_)
     ·have hd19:=eq_of_beq hb19
      exact Ak ⟨⟨zq8,Dd⟩,(Ag hc hr3c)⟩
     ·refine As (fun hb22=>?_) (fun hb22=>?_)
      ·have hd22:=eq_of_beq hb22
       refine Am (A7 _ (-2) (1000006) (Ag hc hr3c) zq4 zq4) (fun r8 ⟨⟨hr81,hr82⟩,hr8c⟩=>?_)
       exact Ak ⟨⟨zq8,Dd⟩,(Ag hc hr8c)⟩
      ·refine As (fun hb26=>?_) (fun hb26=>?_)
       ·have hd26:=eq_of_beq hb26
        refine Am (A7 _ (0) (32) (Ag hc hr3c) zq4 zq4) (fun r9 ⟨⟨hr91,hr92⟩,hr9c⟩=>?_)
        refine Am (Ba _ (Ag hc hr9c) zq7) (fun r10 ⟨⟨hr101,hr102⟩,hr10c⟩=>?_)
        exact Ak ⟨⟨zq8,Dd⟩,(Ag hc hr10c)⟩
       ·exact Ak ⟨⟨zq8,Dd⟩,(Ag hc hr3c)⟩
end
end Go.Proofs.YtjlblagmjlmglaaGreat

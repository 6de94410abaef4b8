/-
  That the program and the reference answer alike, in plain terms, and that the laws answer true.
-/
import Derived.Test.YtfljmgnghlpapaaGreatL40
namespace Go.Proofs.YtfljmgnghlpapaaGreat
open Go.RowKit
set_option linter.unusedVariables false
set_option linter.unusedSimpArgs false
set_option maxRecDepth 100000
set_option maxHeartbeats 8000000
noncomputable section
theorem A2z (a b c:YI):Tot (fun _=>True) (Bc a b c):=by rw[Df];exact Ah trivial
theorem Jm {b:List YB} {c:Aq} (l:List YI) (h:Bn b c) (hl:0<l.length∧l.length≤256):Tot (fun r=>Bn b r.2) (Bf c (l,())):=by
 unfold Bf Zx
 simp only[Ac,Ae,Ab,Al]
 refine Aj (A9 _ h zq2) (fun r hr=>?_)
 obtain⟨⟨r1,r2⟩,r3⟩:=hr
 dsimp only at r2
 exact Aj (D8 (P:=fun _=>True) r1 zq0 (fun _ _=>trivial)) (fun x _=>Ah (Ag h r3))
theorem Aap (n:YI) (k:YBs):Tot (fun r=>En r≤64) (Ly n k):=by
 obtain⟨r,_,h2,h3⟩:=Bdg n k
 exact⟨r,h2,h3⟩
theorem X9 (a0:YI):Tot (fun _=>True) (I6 a0):=by
 unfold I6 Ae9
 simp only[Ac,Ae,Ab,Al,List.length_nil,List.nil_append,Nat.zero_add]
 refine Aj (A2z _ _ _) (fun r1 _=>?_)
 refine Ar (fun hb1=>?_) (fun hb1=>?_)
 ·exact Ah trivial
 ·exact Ah trivial
theorem Bbe {b:List YB} {a0:Aq} (hc:Bn b a0):Tot (fun r=>Bn b r.2) (Amg a0):=by
 unfold Amg Ak7
 simp only[Ac,Ae,Ab,Al,List.length_nil,List.nil_append,Nat.zero_add]
 refine Aj (Bv _ (-9223372036854775808) (9223372036854775807) hc zq4 zq4) (fun r1 ⟨⟨hr11,hr12⟩,hr1c⟩=>?_)
 exact Ah (Ag hc hr1c)
theorem A8r {b:List YB} {a0:Aq} (hc:Bn b a0):Tot (fun r=>Bn b r.2) (Ahi a0):=by
 unfold Ahi Afz
 simp only[Ac,Ae,Ab,Al,List.length_nil,List.nil_append,Nat.zero_add]
 refine Aj (Cr _ hc zq7) (fun r1 hr1c=>?_)
 refine Ar (fun hb1=>?_) (fun hb1=>?_)
 ·refine Aj (A9 _ (Ag hc hr1c) zq7) (fun r2 ⟨⟨hr21,hr22⟩,hr2c⟩=>?_)
  refine Aj (M5 (Ag hc hr2c)) (fun r3 ⟨⟨hr31,hr32⟩,hr3c⟩=>?_)
  refine Aj (A9 _ (Ag hc hr3c) zq7) (fun r4 ⟨⟨hr41,hr42⟩,hr4c⟩=>?_)
  exact Ah (Ag hc hr4c)
 ·refine Aj (A9 _ (Ag hc hr1c) zq7) (fun r5 ⟨⟨hr51,hr52⟩,hr5c⟩=>?_)
  refine Aj (X9 _) (fun r6 _=>?_)
  exact Ah (Ag hc hr5c)
theorem Am1 {b:List YB} {a0:Aq} (hc:Bn b a0):Tot (fun r=>Bn b r.2) (Tt a0):=by
 unfold Tt Ak9
 simp only[Ac,Ae,Ab,Al,List.length_nil,List.nil_append,Nat.zero_add]
 refine Aj (A8r hc) (fun r1 hr1c=>?_)
 refine Aj (A9 _ (Ag hc hr1c) zq7) (fun r2 ⟨⟨hr21,hr22⟩,hr2c⟩=>?_)
 refine Ar (fun hb2=>?_) (fun hb2=>?_)
 ·have hd2:=eq_of_beq hb2
  refine Aj (Bbe (Ag hc hr2c)) (fun r3 hr3c=>?_)
  exact Ah (Ag hc hr3c)
 ·refine Ar (fun hb6=>?_) (fun hb6=>?_)
  ·have hd6:=eq_of_beq hb6
   refine Aj (Bv _ (-1) (65536) (Ag hc hr2c) zq4 zq4) (fun r4 ⟨⟨hr41,hr42⟩,hr4c⟩=>?_)
   exact Ah (Ag hc hr4c)
  ·exact Ah (Ag hc hr2c)
theorem Az9 {b:List YB} {a0:Aq} (hc:Bn b a0):Tot (fun r=>(Da r.1≤60∧wfB r.1.2.2.2.1)∧Bn b r.2) (Uu a0):=by
 unfold Uu Ue
 simp only[Ac,Ae,Ab,Al,List.length_nil,List.nil_append,Nat.zero_add]
 refine Aj (Cq _ hc zq7) (fun r1 ⟨⟨hr11,hr12⟩,hr1c⟩=>?_)
 refine Aj (Cq _ (Ag hc hr1c) zq7) (fun r2 ⟨⟨hr21,hr22⟩,hr2c⟩=>?_)
 refine Aj (A9 _ (Ag hc hr2c) zq7) (fun r3 ⟨⟨hr31,hr32⟩,hr3c⟩=>?_)
 refine Aj (Cq _ (Ag hc hr3c) zq7) (fun r4 ⟨⟨hr41,hr42⟩,hr4c⟩=>?_)
 exact Ah ⟨⟨zq8,by(dsimp only;first|exact Fr|assumption)⟩,(Ag hc hr4c)⟩
end
end Go.Proofs.YtfljmgnghlpapaaGreat

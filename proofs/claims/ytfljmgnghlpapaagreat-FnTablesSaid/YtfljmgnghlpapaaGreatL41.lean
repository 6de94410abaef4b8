/-
  That the program and the reference answer alike, in plain terms, and that the laws answer true.
-/
import Derived.Test.YtfljmgnghlpapaaGreatL40
namespace Go.Proofs.YtfljmgnghlpapaaGreat
open Go.RowKit
set_option linter.unusedVariables false
set_option linter.unusedSimpArgs false
set_option maxRecDepth 100000
set_option maxHeartbeats 8000000
noncomputable section
theorem Aoi (a b c:YI):Tot (fun _=>True) (Bc a b c):=by rw[Dd];exact Ae trivial
theorem Tc (n:YI) (k:YBs):Tot (fun r=>Dj r≤64) (Is n k):=by
 obtain⟨r,_,h2,h3⟩:=Awr n k
 exact⟨r,h2,h3⟩
theorem X9 (a0:YI):Tot (fun _=>True) (Hn a0):=by
 unfold Hn Wk
 simp only[Ah,Ai,Ab,Am,List.length_nil,List.nil_append,Nat.zero_add]
 refine Ag (Aoi _ _ _) (fun r1 _=>?_)
 refine An (fun hb1=>?_) (fun hb1=>?_)
 ·exact Ae trivial
 ·exact Ae trivial
theorem Au9 {b:List YB} {a0:Ap} (hc:Bw b a0):Tot (fun r=>Bw b r.2) (Acf a0):=by
 unfold Acf Abt
 simp only[Ah,Ai,Ab,Am,List.length_nil,List.nil_append,Nat.zero_add]
 refine Ag (Bh _ (-9223372036854775808) (9223372036854775807) hc zq3 zq3) (fun r1 ⟨⟨hr11,hr12⟩,hr1c⟩=>?_)
 exact Ae (Ad hc hr1c)
theorem As7 {b:List YB} {a0:Ap} (hc:Bw b a0):Tot (fun r=>Bw b r.2) (Xw a0):=by
 unfold Xw W4
 simp only[Ah,Ai,Ab,Am,List.length_nil,List.nil_append,Nat.zero_add]
 refine Ag (Bz _ hc zq4) (fun r1 hr1c=>?_)
 refine An (fun hb1=>?_) (fun hb1=>?_)
 ·refine Ag (Ba _ (Ad hc hr1c) zq4) (fun r2 ⟨⟨hr21,hr22⟩,hr2c⟩=>?_)
  refine Ag (Jm (Ad hc hr2c)) (fun r3 ⟨⟨hr31,hr32⟩,hr3c⟩=>?_)
  refine Ag (Ba _ (Ad hc hr3c) zq4) (fun r4 ⟨⟨hr41,hr42⟩,hr4c⟩=>?_)
  exact Ae (Ad hc hr4c)
 ·refine Ag (Ba _ (Ad hc hr1c) zq4) (fun r5 ⟨⟨hr51,hr52⟩,hr5c⟩=>?_)
  refine Ag (X9 _) (fun r6 _=>?_)
  exact Ae (Ad hc hr5c)
theorem Ali {b:List YB} {a0:Ap} (hc:Bw b a0):Tot (fun r=>Bw b r.2) (S5 a0):=by
 unfold S5 Abu
 simp only[Ah,Ai,Ab,Am,List.length_nil,List.nil_append,Nat.zero_add]
 refine Ag (As7 hc) (fun r1 hr1c=>?_)
 refine Ag (Ba _ (Ad hc hr1c) zq4) (fun r2 ⟨⟨hr21,hr22⟩,hr2c⟩=>?_)
 refine An (fun hb2=>?_) (fun hb2=>?_)
 ·have hd2:=eq_of_beq hb2
  refine Ag (Au9 (Ad hc hr2c)) (fun r3 hr3c=>?_)
  exact Ae (Ad hc hr3c)
 ·refine An (fun hb6=>?_) (fun hb6=>?_)
  ·have hd6:=eq_of_beq hb6
   refine Ag (Bh _ (-1) (65536) (Ad hc hr2c) zq3 zq3) (fun r4 ⟨⟨hr41,hr42⟩,hr4c⟩=>?_)
   exact Ae (Ad hc hr4c)
  ·exact Ae (Ad hc hr2c)
theorem Amr {b:List YB} {a0:Ap} (hc:Bw b a0):Tot (fun r=>(Ce r.1≤60∧wfB r.1.2.2.2.1)∧Bw b r.2) (Pe a0):=by
 unfold Pe O7
 simp only[Ah,Ai,Ab,Am,List.length_nil,List.nil_append,Nat.zero_add]
 refine Ag (Ch _ hc zq4) (fun r1 ⟨⟨hr11,hr12⟩,hr1c⟩=>?_)
 refine Ag (Ch _ (Ad hc hr1c) zq4) (fun r2 ⟨⟨hr21,hr22⟩,hr2c⟩=>?_)
 refine Ag (Ba _ (Ad hc hr2c) zq4) (fun r3 ⟨⟨hr31,hr32⟩,hr3c⟩=>?_)
 refine Ag (Ch _ (Ad hc hr3c) zq4) (fun r4 ⟨⟨hr41,hr42⟩,hr4c⟩=>?_)
 exact Ae ⟨⟨zq5,by(dsimp only;first|exact Fp|assumption)⟩,(Ad hc hr4c)⟩
end
end Go.Proofs.YtfljmgnghlpapaaGreat

/-
  That the program and the reference answer alike, in plain terms, and that the laws answer true.
-/
import Derived.Test.YtmhhajdeafijmaaGreatL40
namespace Go.Proofs.YtmhhajdeafijmaaGreat
open Go.RowKit
set_option linter.unusedVariables false
set_option linter.unusedSimpArgs false
set_option maxRecDepth 100000
set_option maxHeartbeats 8000000
noncomputable section
theorem V2 {l:List YB} {i:Nat} {x:YB} (h:wfB l) (hx:0≤x.1∧x.1≤255):wfB (l.set i x):=fun j y hy=>by
 rw[List.getElem?_set]at hy
 split at hy
 ·split at hy
  ·simp only[Option.some.injEq]at hy;rw[←hy];exact hx
  ·cases hy
 ·exact h j y hy
theorem Sy {l:List YB} {i j:Nat} (h:wfB l):wfB ((l.take i).drop j):=fun k y hy=>by
 rw[List.getElem?_drop,List.getElem?_take]at hy
 split at hy
 ·exact h _ y hy
 ·cases hy
theorem Axr (a b c:YI):Tot (fun _=>True) (Bm a b c):=by rw[Cz];exact Ah trivial
theorem Pr (n:YI) (k:YBs):Tot (fun r=>B5 r≤64) (Dz n k):=by
 obtain⟨r,_,h2,h3⟩:=Anw n k
 exact⟨r,h2,h3⟩
theorem Sz (a0:YI):Tot (fun _=>True) (G4 a0):=by
 unfold G4 We
 simp only[Ae,Ai,Ac,Ak,List.length_nil,List.nil_append,Nat.zero_add]
 refine Ad (Axr _ _ _) (fun r1 _=>?_)
 refine Ao (fun hb1=>?_) (fun hb1=>?_)
 ·exact Ah trivial
 ·exact Ah trivial
theorem A5q {b:List YB} {a0:Az} (hc:B9 b a0):Tot (fun r=>B9 b r.2) (Ai8 a0):=by
 unfold Ai8 Aij
 simp only[Ae,Ai,Ac,Ak,List.length_nil,List.nil_append,Nat.zero_add]
 refine Ad (B7 _ (-9223372036854775808) (9223372036854775807) hc zq4 zq4) (fun r1 ⟨⟨hr11,hr12⟩,hr1c⟩=>?_)
 exact Ah (Ab hc hr1c)
theorem A3g {b:List YB} {a0:Az} (hc:B9 b a0):Tot (fun r=>B9 b r.2) (Aff a0):=by
 unfold Aff Aeb
 simp only[Ae,Ai,Ac,Ak,List.length_nil,List.nil_append,Nat.zero_add]
 refine Ad (As _ hc zq8) (fun r1 hr1c=>?_)
 refine Ao (fun hb1=>?_) (fun hb1=>?_)
 ·refine Ad (Bg _ (Ab hc hr1c) zq8) (fun r2 ⟨⟨hr21,hr22⟩,hr2c⟩=>?_)
  refine Ad (Kx (Ab hc hr2c)) (fun r3 ⟨⟨hr31,hr32⟩,hr3c⟩=>?_)
  refine Ad (Bg _ (Ab hc hr3c) zq8) (fun r4 ⟨⟨hr41,hr42⟩,hr4c⟩=>?_)
  exact Ah (Ab hc hr4c)
 ·refine Ad (Bg _ (Ab hc hr1c) zq8) (fun r5 ⟨⟨hr51,hr52⟩,hr5c⟩=>?_)
  refine Ad (Sz _) (fun r6 _=>?_)
  exact Ah (Ab hc hr5c)
theorem A5r {b:List YB} {a0:Az} (hc:B9 b a0):Tot (fun r=>B9 b r.2) (Eh a0):=by
 unfold Eh Aik
 simp only[Ae,Ai,Ac,Ak,List.length_nil,List.nil_append,Nat.zero_add]
 refine Ad (A3g hc) (fun r1 hr1c=>?_)
 refine Ad (Bg _ (Ab hc hr1c) zq8) (fun r2 ⟨⟨hr21,hr22⟩,hr2c⟩=>?_)
 refine Ao (fun hb2=>?_) (fun hb2=>?_)
 ·have hd2:=eq_of_beq hb2
  refine Ad (A5q (Ab hc hr2c)) (fun r3 hr3c=>?_)
  exact Ah (Ab hc hr3c)
 ·refine Ao (fun hb6=>?_) (fun hb6=>?_)
  ·have hd6:=eq_of_beq hb6
   refine Ad (B7 _ (-1) (65536) (Ab hc hr2c) zq4 zq4) (fun r4 ⟨⟨hr41,hr42⟩,hr4c⟩=>?_)
   exact Ah (Ab hc hr4c)
  ·exact Ah (Ab hc hr2c)
theorem A3h {b:List YB} {a0:Az} (hc:B9 b a0):Tot (fun r=>r.2.1.1.length≤40∧B9 b r.2.2) (Afd a0):=by
 unfold Afd Ad3
 simp only[Ae,Ai,Ac,Ak,List.length_nil,List.nil_append,Nat.zero_add]
 refine Ad (Bg _ hc zq8) (fun r1 ⟨⟨hr11,hr12⟩,hr1c⟩=>?_)
 refine Ao (fun hb1=>?_) (fun hb1=>?_)
 ·have hd1:=eq_of_beq hb1
  refine Ad (Bg _ (Ab hc hr1c) zq8) (fun r2 ⟨⟨hr21,hr22⟩,hr2c⟩=>?_)
  refine Ad (Cr _ (Ab hc hr2c) zq8) (fun r3 ⟨⟨hr31,hr32⟩,hr3c⟩=>?_)
  exact Ah ⟨zq9,(Ab hc hr3c)⟩
 ·refine Ao (fun hb6=>?_) (fun hb6=>?_)
  ·have hd6:=eq_of_beq hb6
   refine Ad (Bg _ (Ab hc hr1c) zq8) (fun r4 ⟨⟨hr41,hr42⟩,hr4c⟩=>?_)
   refine Ad (Cr _ (Ab hc hr4c) zq8) (fun r5 ⟨⟨hr51,hr52⟩,hr5c⟩=>?_)
   exact Ah ⟨zq9,(Ab hc hr5c)⟩
  ·refine Ad (B7 _ (0) (40) (Ab hc hr1c) zq4 zq4) (fun r6 ⟨⟨hr61,hr62⟩,hr6c⟩=>?_)
   refine Ad (Cr _ (Ab hc hr6c) zq8) (fun r7 ⟨⟨hr71,hr72⟩,hr7c⟩=>?_)
   exact Ah ⟨zq9,(Ab hc hr7c)⟩
theorem Rn {b:List YB} {a0:Az} (a1:YBs) (hc:B9 b a0) (hl:a1.1.length≤1000000):Tot (fun r=>(r.1.1.length≤a1.1.length+1∧(wfB a1.1→wfB r.1.1))∧B9 b r.2) (Km a0 a1):=by
 unfold Km Ad9
 simp only[Ae,Ai,Ac,Ak,List.length_nil,List.nil_append,Nat.zero_add]
 refine F9 (Am zq8) ?_
 refine Ad (Bg _ hc zq8) (fun r1 ⟨⟨hr11,hr12⟩,hr1c⟩=>?_)
 refine Ao (fun hb2=>?_) (fun hb2=>?_)
 ·have hd2:=eq_of_beq hb2
  refine Ao (fun hb4=>?_) (fun hb4=>?_)
  ·have hd4:=of_decide_eq_true hb4
   refine Ad (Bg _ (Ab hc hr1c) zq8) (fun r2 ⟨⟨hr21,hr22⟩,hr2c⟩=>?_)
   refine Ad (Pq (P:=fun _=>True) zq8 zq8 (fun _ _=>trivial)) (fun e3 _=>?_)
   refine Ad (Bg _ (Ab hc hr2c) zq8) (fun r4 ⟨⟨hr41,hr42⟩,hr4c⟩=>?_)
   refine Ad (Pq (P:=fun _=>True) zq8 zq8 (fun _ _=>trivial)) (fun e5 _=>?_)
   exact Ah ⟨⟨zq9,fun hw=>by(first|exact hw|exact V2 hw (u8_in _)|exact Sy hw|exact Pa hw (u8_in _))⟩,(Ab hc hr4c)⟩
  ·have hd4:=of_decide_eq_false hb4
   exact Ah ⟨⟨zq9,fun hw=>by(first|exact hw|exact V2 hw (u8_in _)|exact Sy hw|exact Pa hw (u8_in _))⟩,(Ab hc hr1c)⟩
 ·refine Ao (fun hb13=>?_) (fun hb13=>?_)
  ·have hd13:=eq_of_beq hb13
   refine Ao (fun hb15=>?_) (fun hb15=>?_)
   ·have hd15:=of_decide_eq_true hb15
    refine Ad (Bg _ (Ab hc hr1c) zq8) (fun r7 ⟨⟨hr71,hr72⟩,hr7c⟩=>?_)
    refine F9 (Am zq8) ?_
    refine F9 (Am zq8) ?_
    exact Ah ⟨⟨zq9,fun hw=>by(first|exact hw|exact V2 hw (u8_in _)|exact Sy hw|exact Pa hw (u8_in _))⟩,(Ab hc hr7c)⟩
   ·have hd15:=of_decide_eq_false hb15
    exact Ah ⟨⟨zq9,fun hw=>by(first|exact hw|exact V2 hw (u8_in _)|exact Sy hw|exact Pa hw (u8_in _))⟩,(Ab hc hr1c)⟩
  ·refine Ao (fun hb23=>?_) (fun hb23=>?_)
   ·have hd23:=eq_of_beq hb23
    refine Ad (Kx (Ab hc hr1c)) (fun r8 ⟨⟨hr81,hr82⟩,hr8c⟩=>?_)
    refine F9 (Am zq8) ?_
    exact Ah ⟨⟨zq9,fun hw=>by(first|exact hw|exact V2 hw (u8_in _)|exact Sy hw|exact Pa hw (u8_in _))⟩,(Ab hc hr8c)⟩
   ·exact Ah ⟨⟨zq9,fun hw=>by(first|exact hw|exact V2 hw (u8_in _)|exact Sy hw|exact Pa hw (u8_in _))⟩,(Ab hc hr1c)⟩
theorem Bo {b:List YB} {a0:Az} (a1:Aq) (hc:B9 b a0) (hn:Ar a1≤200000) (hw:wfB a1.2.2.2.1):Tot (fun r=>(Ar r.1≤Ar a1+1∧wfB r.1.2.2.2.1)∧B9 b r.2) (Bk a0 a1):=by
 unfold Bk Aea
 simp only[Ae,Ai,Ac,Ak,List.length_nil,List.nil_append,Nat.zero_add]
 rw[Anx _ zq0]
 simp only[Ag]
 refine Ad (Bg _ hc zq8) (fun r2 ⟨⟨hr21,hr22⟩,hr2c⟩=>?_)
 refine Ao (fun hb3=>?_) (fun hb3=>?_)
 ·have hd3:=eq_of_beq hb3
  refine Ad (B7 _ (-1) (7) (Ab hc hr2c) zq4 zq4) (fun r3 ⟨⟨hr31,hr32⟩,hr3c⟩=>?_)
  exact Ah ⟨⟨zq9,Afs⟩,(Ab hc hr3c)⟩
 ·refine Ao (fun hb7=>?_) (fun hb7=>?_)
  ·have hd7:=eq_of_beq hb7
   refine Ad (B7 _ (-1) (1) (Ab hc hr2c) zq4 zq4) (fun r4 ⟨⟨hr41,hr42⟩,hr4c⟩=>?_)
   exact Ah ⟨⟨zq9,Afs⟩,(Ab hc hr4c)⟩
  ·refine Ao (fun hb11=>?_) (fun hb11=>?_)
   ·have hd11:=eq_of_beq hb11
    refine Ad (Rn _ (Ab hc hr2c) zq8) (fun r5 ⟨⟨hr51,hr52⟩,hr5c⟩=>?_)
    exact Ah ⟨⟨zq9,Afs⟩,(Ab hc hr5c)⟩
   ·refine Ao (fun hb15=>?_) (fun hb15=>?_)
    ·have hd15:=eq_of_beq hb15
     refine Ad (Rn _ (Ab hc hr2c) zq8) (fun r6 ⟨⟨hr61,hr62⟩,hr6c⟩=>?_)
     exact Ah ⟨⟨zq9,Afs⟩,(Ab hc hr6c)⟩
    ·refine Ao (fun hb19=>?_) (fun hb19=>?_)
     ·have hd19:=eq_of_beq hb19
      refine Ad (Rn _ (Ab hc hr2c) zq8) (fun r7 ⟨⟨hr71,hr72⟩,hr7c⟩=>?_)
      exact Ah ⟨⟨zq9,Afs⟩,(Ab hc hr7c)⟩
     ·refine Ao (fun hb23=>?_) (fun hb23=>?_)
      ·have hd23:=eq_of_beq hb23
       refine Ad (Rn _ (Ab hc hr2c) zq8) (fun r8 ⟨⟨hr81,hr82⟩,hr8c⟩=>?_)
       exact Ah ⟨⟨zq9,Afs⟩,(Ab hc hr8c)⟩
      ·refine Ao (fun hb27=>?_) (fun hb27=>?_)
       ·have hd27:=eq_of_beq hb27
        refine Ad (Rn _ (Ab hc hr2c) zq8) (fun r9 ⟨⟨hr91,hr92⟩,hr9c⟩=>?_)
        exact Ah ⟨⟨zq9,Afs⟩,(Ab hc hr9c)⟩
       ·refine Ao (fun hb31=>?_) (fun hb31=>?_)
        ·have hd31:=eq_of_beq hb31
         refine Ad (Bg _ (Ab hc hr2c) zq8) (fun r10 ⟨⟨hr101,hr102⟩,hr10c⟩=>?_)
         exact Ah ⟨⟨zq9,Afs⟩,(Ab hc hr10c)⟩
        ·exact Ah ⟨⟨zq9,Afs⟩,(Ab hc hr2c)⟩
theorem Avn {b:List YB} {a0:Az} (hc:B9 b a0):Tot (fun r=>(Ar r.1≤60∧wfB r.1.2.2.2.1)∧B9 b r.2) (La a0):=by
 unfold La Ol
 simp only[Ae,Ai,Ac,Ak,List.length_nil,List.nil_append,Nat.zero_add]
 refine Ad (Cr _ hc zq8) (fun r1 ⟨⟨hr11,hr12⟩,hr1c⟩=>?_)
 refine Ad (Cr _ (Ab hc hr1c) zq8) (fun r2 ⟨⟨hr21,hr22⟩,hr2c⟩=>?_)
 refine Ad (Bg _ (Ab hc hr2c) zq8) (fun r3 ⟨⟨hr31,hr32⟩,hr3c⟩=>?_)
 refine Ad (Cr _ (Ab hc hr3c) zq8) (fun r4 ⟨⟨hr41,hr42⟩,hr4c⟩=>?_)
 exact Ah ⟨⟨zq9,by(dsimp only;first|exact Gx|assumption)⟩,(Ab hc hr4c)⟩
end
end Go.Proofs.YtmhhajdeafijmaaGreat

/-
  That the program and the reference answer alike, in plain terms, and that the laws answer true.
-/
import Derived.Test.YtmhhajdeafijmaaGreatL40
namespace Go.Proofs.YtmhhajdeafijmaaGreat
open Go.RowKit
set_option linter.unusedVariables false
set_option linter.unusedSimpArgs false
set_option maxRecDepth 100000
set_option maxHeartbeats 8000000
noncomputable section
theorem Va {l:List YB} {i:Nat} {x:YB} (h:wfB l) (hx:0≤x.1∧x.1≤255):wfB (l.set i x):=fun j y hy=>by
 rw[List.getElem?_set]at hy
 split at hy
 ·split at hy
  ·simp only[Option.some.injEq]at hy;rw[←hy];exact hx
  ·cases hy
 ·exact h j y hy
theorem Rs {l:List YB} {i j:Nat} (h:wfB l):wfB ((l.take i).drop j):=fun k y hy=>by
 rw[List.getElem?_drop,List.getElem?_take]at hy
 split at hy
 ·exact h _ y hy
 ·cases hy
theorem Ax0 (a b c:YI):Tot (fun _=>True) (Bk a b c):=by rw[C4];exact Ae trivial
theorem L3 (n:YI) (k:YBs):Tot (fun r=>Bs r≤64) (Dx n k):=by
 obtain⟨r,_,h2,h3⟩:=An6 n k
 exact⟨r,h2,h3⟩
theorem W8 (a0:YI):Tot (fun _=>True) (Ip a0):=by
 unfold Ip Ac4
 simp only[Af,Ah,Ac,An,List.length_nil,List.nil_append,Nat.zero_add]
 refine Ad (Ax0 _ _ _) (fun r1 _=>?_)
 refine Ak (fun hb1=>?_) (fun hb1=>?_)
 ·exact Ae trivial
 ·exact Ae trivial
theorem A5t {b:List YB} {a0:Av} (hc:Bx b a0):Tot (fun r=>Bx b r.2) (Ah8 a0):=by
 unfold Ah8 Ah7
 simp only[Af,Ah,Ac,An,List.length_nil,List.nil_append,Nat.zero_add]
 refine Ad (Bh _ (-9223372036854775808) (9223372036854775807) hc zq3 zq3) (fun r1 ⟨⟨hr11,hr12⟩,hr1c⟩=>?_)
 exact Ae (Aa hc hr1c)
theorem A27 {b:List YB} {a0:Av} (hc:Bx b a0):Tot (fun r=>Bx b r.2) (Adi a0):=by
 unfold Adi Adh
 simp only[Af,Ah,Ac,An,List.length_nil,List.nil_append,Nat.zero_add]
 refine Ad (Aw _ hc zq7) (fun r1 hr1c=>?_)
 refine Ak (fun hb1=>?_) (fun hb1=>?_)
 ·refine Ad (Bb _ (Aa hc hr1c) zq7) (fun r2 ⟨⟨hr21,hr22⟩,hr2c⟩=>?_)
  refine Ad (J6 (Aa hc hr2c)) (fun r3 ⟨⟨hr31,hr32⟩,hr3c⟩=>?_)
  refine Ad (Bb _ (Aa hc hr3c) zq7) (fun r4 ⟨⟨hr41,hr42⟩,hr4c⟩=>?_)
  exact Ae (Aa hc hr4c)
 ·refine Ad (Bb _ (Aa hc hr1c) zq7) (fun r5 ⟨⟨hr51,hr52⟩,hr5c⟩=>?_)
  refine Ad (W8 _) (fun r6 _=>?_)
  exact Ae (Aa hc hr5c)
theorem Aj5 {b:List YB} {a0:Av} (hc:Bx b a0):Tot (fun r=>Bx b r.2) (Dp a0):=by
 unfold Dp Ah9
 simp only[Af,Ah,Ac,An,List.length_nil,List.nil_append,Nat.zero_add]
 refine Ad (A27 hc) (fun r1 hr1c=>?_)
 refine Ad (Bb _ (Aa hc hr1c) zq7) (fun r2 ⟨⟨hr21,hr22⟩,hr2c⟩=>?_)
 refine Ak (fun hb2=>?_) (fun hb2=>?_)
 ·have hd2:=eq_of_beq hb2
  refine Ad (A5t (Aa hc hr2c)) (fun r3 hr3c=>?_)
  exact Ae (Aa hc hr3c)
 ·refine Ak (fun hb6=>?_) (fun hb6=>?_)
  ·have hd6:=eq_of_beq hb6
   refine Ad (Bh _ (-1) (65536) (Aa hc hr2c) zq3 zq3) (fun r4 ⟨⟨hr41,hr42⟩,hr4c⟩=>?_)
   exact Ae (Aa hc hr4c)
  ·exact Ae (Aa hc hr2c)
theorem A28 {b:List YB} {a0:Av} (hc:Bx b a0):Tot (fun r=>r.2.1.1.length≤40∧Bx b r.2.2) (Ads a0):=by
 unfold Ads Adr
 simp only[Af,Ah,Ac,An,List.length_nil,List.nil_append,Nat.zero_add]
 refine Ad (Bb _ hc zq7) (fun r1 ⟨⟨hr11,hr12⟩,hr1c⟩=>?_)
 refine Ak (fun hb1=>?_) (fun hb1=>?_)
 ·have hd1:=eq_of_beq hb1
  refine Ad (Bb _ (Aa hc hr1c) zq7) (fun r2 ⟨⟨hr21,hr22⟩,hr2c⟩=>?_)
  refine Ad (Cn _ (Aa hc hr2c) zq7) (fun r3 ⟨⟨hr31,hr32⟩,hr3c⟩=>?_)
  exact Ae ⟨zq8,(Aa hc hr3c)⟩
 ·refine Ak (fun hb6=>?_) (fun hb6=>?_)
  ·have hd6:=eq_of_beq hb6
   refine Ad (Bb _ (Aa hc hr1c) zq7) (fun r4 ⟨⟨hr41,hr42⟩,hr4c⟩=>?_)
   refine Ad (Cn _ (Aa hc hr4c) zq7) (fun r5 ⟨⟨hr51,hr52⟩,hr5c⟩=>?_)
   exact Ae ⟨zq8,(Aa hc hr5c)⟩
  ·refine Ad (Bh _ (0) (40) (Aa hc hr1c) zq3 zq3) (fun r6 ⟨⟨hr61,hr62⟩,hr6c⟩=>?_)
   refine Ad (Cn _ (Aa hc hr6c) zq7) (fun r7 ⟨⟨hr71,hr72⟩,hr7c⟩=>?_)
   exact Ae ⟨zq8,(Aa hc hr7c)⟩
theorem Qs {b:List YB} {a0:Av} (a1:YBs) (hc:Bx b a0) (hl:a1.1.length≤1000000):Tot (fun r=>(r.1.1.length≤a1.1.length+1∧(wfB a1.1→wfB r.1.1))∧Bx b r.2) (J1 a0 a1):=by
 unfold J1 Adx
 simp only[Af,Ah,Ac,An,List.length_nil,List.nil_append,Nat.zero_add]
 refine Eg (Al zq7) ?_
 refine Ad (Bb _ hc zq7) (fun r1 ⟨⟨hr11,hr12⟩,hr1c⟩=>?_)
 refine Ak (fun hb2=>?_) (fun hb2=>?_)
 ·have hd2:=eq_of_beq hb2
  refine Ak (fun hb4=>?_) (fun hb4=>?_)
  ·have hd4:=of_decide_eq_true hb4
   refine Ad (Bb _ (Aa hc hr1c) zq7) (fun r2 ⟨⟨hr21,hr22⟩,hr2c⟩=>?_)
   refine Ad (Mv (P:=fun _=>True) zq7 zq7 (fun _ _=>trivial)) (fun e3 _=>?_)
   refine Ad (Bb _ (Aa hc hr2c) zq7) (fun r4 ⟨⟨hr41,hr42⟩,hr4c⟩=>?_)
   refine Ad (Mv (P:=fun _=>True) zq7 zq7 (fun _ _=>trivial)) (fun e5 _=>?_)
   exact Ae ⟨⟨zq8,fun hw=>by(first|exact hw|exact Va hw (u8_in _)|exact Rs hw|exact Oe hw (u8_in _))⟩,(Aa hc hr4c)⟩
  ·have hd4:=of_decide_eq_false hb4
   exact Ae ⟨⟨zq8,fun hw=>by(first|exact hw|exact Va hw (u8_in _)|exact Rs hw|exact Oe hw (u8_in _))⟩,(Aa hc hr1c)⟩
 ·refine Ak (fun hb13=>?_) (fun hb13=>?_)
  ·have hd13:=eq_of_beq hb13
   refine Ak (fun hb15=>?_) (fun hb15=>?_)
   ·have hd15:=of_decide_eq_true hb15
    refine Ad (Bb _ (Aa hc hr1c) zq7) (fun r7 ⟨⟨hr71,hr72⟩,hr7c⟩=>?_)
    refine Eg (Al zq7) ?_
    refine Eg (Al zq7) ?_
    exact Ae ⟨⟨zq8,fun hw=>by(first|exact hw|exact Va hw (u8_in _)|exact Rs hw|exact Oe hw (u8_in _))⟩,(Aa hc hr7c)⟩
   ·have hd15:=of_decide_eq_false hb15
    exact Ae ⟨⟨zq8,fun hw=>by(first|exact hw|exact Va hw (u8_in _)|exact Rs hw|exact Oe hw (u8_in _))⟩,(Aa hc hr1c)⟩
  ·refine Ak (fun hb23=>?_) (fun hb23=>?_)
   ·have hd23:=eq_of_beq hb23
    refine Ad (J6 (Aa hc hr1c)) (fun r8 ⟨⟨hr81,hr82⟩,hr8c⟩=>?_)
    refine Eg (Al zq7) ?_
    exact Ae ⟨⟨zq8,fun hw=>by(first|exact hw|exact Va hw (u8_in _)|exact Rs hw|exact Oe hw (u8_in _))⟩,(Aa hc hr8c)⟩
   ·exact Ae ⟨⟨zq8,fun hw=>by(first|exact hw|exact Va hw (u8_in _)|exact Rs hw|exact Oe hw (u8_in _))⟩,(Aa hc hr1c)⟩
theorem Bl {b:List YB} {a0:Av} (a1:Au) (hc:Bx b a0) (hn:Aq a1≤200000) (hw:wfB a1.2.2.2.1):Tot (fun r=>(Aq r.1≤Aq a1+1∧wfB r.1.2.2.2.1)∧Bx b r.2) (Bf a0 a1):=by
 unfold Bf Ady
 simp only[Af,Ah,Ac,An,List.length_nil,List.nil_append,Nat.zero_add]
 rw[Axk _ zq0]
 simp only[Ai]
 refine Ad (Bb _ hc zq7) (fun r2 ⟨⟨hr21,hr22⟩,hr2c⟩=>?_)
 refine Ak (fun hb3=>?_) (fun hb3=>?_)
 ·have hd3:=eq_of_beq hb3
  refine Ad (Bh _ (-1) (7) (Aa hc hr2c) zq3 zq3) (fun r3 ⟨⟨hr31,hr32⟩,hr3c⟩=>?_)
  exact Ae ⟨⟨zq8,zq9⟩,(Aa hc hr3c)⟩
 ·refine Ak (fun hb7=>?_) (fun hb7=>?_)
  ·have hd7:=eq_of_beq hb7
   refine Ad (Bh _ (-1) (1) (Aa hc hr2c) zq3 zq3) (fun r4 ⟨⟨hr41,hr42⟩,hr4c⟩=>?_)
   exact Ae ⟨⟨zq8,zq9⟩,(Aa hc hr4c)⟩
  ·refine Ak (fun hb11=>?_) (fun hb11=>?_)
   ·have hd11:=eq_of_beq hb11
    refine Ad (Qs _ (Aa hc hr2c) zq7) (fun r5 ⟨⟨hr51,hr52⟩,hr5c⟩=>?_)
    exact Ae ⟨⟨zq8,zq9⟩,(Aa hc hr5c)⟩
   ·refine Ak (fun hb15=>?_) (fun hb15=>?_)
    ·have hd15:=eq_of_beq hb15
     refine Ad (Qs _ (Aa hc hr2c) zq7) (fun r6 ⟨⟨hr61,hr62⟩,hr6c⟩=>?_)
     exact Ae ⟨⟨zq8,zq9⟩,(Aa hc hr6c)⟩
    ·refine Ak (fun hb19=>?_) (fun hb19=>?_)
     ·have hd19:=eq_of_beq hb19
      refine Ad (Qs _ (Aa hc hr2c) zq7) (fun r7 ⟨⟨hr71,hr72⟩,hr7c⟩=>?_)
      exact Ae ⟨⟨zq8,zq9⟩,(Aa hc hr7c)⟩
     ·refine Ak (fun hb23=>?_) (fun hb23=>?_)
      ·have hd23:=eq_of_beq hb23
       refine Ad (Qs _ (Aa hc hr2c) zq7) (fun r8 ⟨⟨hr81,hr82⟩,hr8c⟩=>?_)
       exact Ae ⟨⟨zq8,zq9⟩,(Aa hc hr8c)⟩
      ·refine Ak (fun hb27=>?_) (fun hb27=>?_)
       ·have hd27:=eq_of_beq hb27
        refine Ad (Qs _ (Aa hc hr2c) zq7) (fun r9 ⟨⟨hr91,hr92⟩,hr9c⟩=>?_)
        exact Ae ⟨⟨zq8,zq9⟩,(Aa hc hr9c)⟩
       ·refine Ak (fun hb31=>?_) (fun hb31=>?_)
        ·have hd31:=eq_of_beq hb31
         refine Ad (Bb _ (Aa hc hr2c) zq7) (fun r10 ⟨⟨hr101,hr102⟩,hr10c⟩=>?_)
         exact Ae ⟨⟨zq8,zq9⟩,(Aa hc hr10c)⟩
        ·exact Ae ⟨⟨zq8,zq9⟩,(Aa hc hr2c)⟩
theorem Avn {b:List YB} {a0:Av} (hc:Bx b a0):Tot (fun r=>(Aq r.1≤60∧wfB r.1.2.2.2.1)∧Bx b r.2) (Tp a0):=by
 unfold Tp To
 simp only[Af,Ah,Ac,An,List.length_nil,List.nil_append,Nat.zero_add]
 refine Ad (Cn _ hc zq7) (fun r1 ⟨⟨hr11,hr12⟩,hr1c⟩=>?_)
 refine Ad (Cn _ (Aa hc hr1c) zq7) (fun r2 ⟨⟨hr21,hr22⟩,hr2c⟩=>?_)
 refine Ad (Bb _ (Aa hc hr2c) zq7) (fun r3 ⟨⟨hr31,hr32⟩,hr3c⟩=>?_)
 refine Ad (Cn _ (Aa hc hr3c) zq7) (fun r4 ⟨⟨hr41,hr42⟩,hr4c⟩=>?_)
 exact Ae ⟨⟨zq8,by(dsimp only;first|exact Fu|assumption)⟩,(Aa hc hr4c)⟩
end
end Go.Proofs.YtmhhajdeafijmaaGreat

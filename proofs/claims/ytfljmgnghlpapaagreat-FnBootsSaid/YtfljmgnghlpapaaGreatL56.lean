/-
  That the program and the reference answer alike, in plain terms, and that the laws answer true.
-/
import Derived.Test.YtfljmgnghlpapaaGreatL55
namespace Go.Proofs.YtfljmgnghlpapaaGreat
open Go.RowKit
set_option linter.unusedVariables false
set_option linter.unusedSimpArgs false
set_option maxRecDepth 100000
set_option maxHeartbeats 8000000
noncomputable section
theorem T4 {N:Nat} (s:Ad) (h:SP N s) (hN:N≤100000):Tot (SP N) (I7 s):=by
 have h1:=h.1
 have k:=Aib h
 unfold I7 Afu
 simp only[Ac,Ae,Ab,Al,List.length_nil,List.nil_append,Nat.zero_add]
 rw[Ahz s zq0,Ai]
 refine Ar (fun _=>?_) (fun _=>?_)
 ·rw[Amu s zq0,Ai];exact Ah h
 refine Dh (An zq0) (Dh (An zq0) (Ah ?_))
 have:=Ix s
 exact M6 (A:=s.2.1.length) (B:=s.2.2.1.length) (C:=0) (D:=0) (Nat.le_refl _) (Nat.le_refl _) (by simp[Bs]) (by simp[A1,Co]) h.2.1 Fr zq0
theorem A8x {b:List YB} {a0:Aq} (hc:Bn b a0):Tot (fun r=>SP 20000 r.1∧Bn b r.2) (Ahk a0):=by
 unfold Ahk Af1
 simp only[Ac,Ae,Ab,Al]
 refine Aj (Tc hc) (fun r1 ⟨h1,h1c⟩=>?_)
 obtain⟨k1,k2,k3,k4⟩:=Aib h1
 refine Aj (A9 _ (Ag hc h1c) zq4) (fun r2 ⟨_,h2c⟩=>?_)
 have same:SP 20000 r1.1:=⟨Nat.le_trans h1.1 zq4,h1.2⟩
 refine Ar (fun _=>?_) (fun _=>?_)
 ·exact Aj (Bv _ 0 10 (Ag hc h2c) zq4 zq4) (fun r3 ⟨_,h3c⟩=>Ah ⟨M6 k1 k2 k3 k4 h1.2.1 h1.2.2 zq4,Ag hc h3c⟩)
 refine Ar (fun _=>?_) (fun _=>?_)
 ·exact Aj (Cq _ (Ag hc h2c) zq4) (fun r3 ⟨⟨h3,_⟩,h3c⟩=>Ah ⟨M6 (A:=11) (Nat.le_of_eq h3) k2 k3 k4 h1.2.1 h1.2.2 zq4,Ag hc h3c⟩)
 refine Ar (fun _=>?_) (fun _=>?_)
 ·refine Aj (Bv _ 11 12 (Ag hc h2c) zq4 zq4) (fun r3 ⟨h3,h3c⟩=>?_)
  exact Aj (Cq _ (Ag hc h3c) zq0) (fun r4 ⟨⟨h4,h4w⟩,h4c⟩=>Ah ⟨M6 (B:=12) k1 zq0 k3 k4 h4w h1.2.2 zq4,Ag hc h4c⟩)
 refine Ar (fun _=>?_) (fun _=>?_)
 ·exact Aj (A8v (Ag hc h2c)) (fun r3 ⟨⟨h3,h3w⟩,h3c⟩=>Ah ⟨M6 k1 k2 h3 k4 h1.2.1 h3w zq4,Ag hc h3c⟩)
 refine Ar (fun _=>?_) (fun _=>?_)
 ·exact Aj (A8w (Ag hc h2c)) (fun r3 ⟨h3,h3c⟩=>Ah ⟨M6 k1 k2 k3 h3 h1.2.1 h1.2.2 zq4,Ag hc h3c⟩)
 refine Ar (fun _=>?_) (fun _=>?_)
 ·exact Aj (Bv _ (-1) 1000001 (Ag hc h2c) zq4 zq4) (fun r3 ⟨_,h3c⟩=>Ah ⟨M6 k1 k2 k3 k4 h1.2.1 h1.2.2 zq4,Ag hc h3c⟩)
 refine Ar (fun _=>?_) (fun _=>?_)
 ·exact Aj (Bv _ (-1) 1000001 (Ag hc h2c) zq4 zq4) (fun r3 ⟨_,h3c⟩=>Ah ⟨M6 k1 k2 k3 k4 h1.2.1 h1.2.2 zq4,Ag hc h3c⟩)
 refine Ar (fun _=>?_) (fun _=>?_)
 ·exact Ah ⟨M6 k1 k2 k3 k4 h1.2.1 h1.2.2 zq4,Ag hc h2c⟩
 refine Ar (fun _=>?_) (fun _=>?_)
 ·exact Aj (T4 _ same zq4) (fun r3 h3=>Ah ⟨h3,Ag hc h2c⟩)
 refine Ar (fun _=>?_) (fun _=>?_)
 ·exact Aj (T4 _ same zq4) (fun r3 h3=>Ah ⟨h3,Ag hc h2c⟩)
 ·exact Ah ⟨same,Ag hc h2c⟩
end
end Go.Proofs.YtfljmgnghlpapaaGreat

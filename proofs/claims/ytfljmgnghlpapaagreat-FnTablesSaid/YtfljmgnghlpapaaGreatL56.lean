/-
  That the program and the reference answer alike, in plain terms, and that the laws answer true.
-/
import Derived.Test.YtfljmgnghlpapaaGreatL55
namespace Go.Proofs.YtfljmgnghlpapaaGreat
open Go.RowKit
set_option linter.unusedVariables false
set_option linter.unusedSimpArgs false
set_option maxRecDepth 100000
set_option maxHeartbeats 8000000
noncomputable section
theorem Oy {N:Nat} (s:Af) (h:SP N s) (hN:N≤100000):Tot (SP N) (K0 s):=by
 have h1:=h.1
 have k:=Zb h
 unfold K0 Afk
 simp only[Ah,Ai,Ab,Am,List.length_nil,List.nil_append,Nat.zero_add]
 rw[Afy s zq0,Ak]
 refine An (fun _=>?_) (fun _=>?_)
 ·rw[Tb s zq0,Ak];exact Ae h
 refine Dr (Ao zq0) (Dr (Ao zq0) (Ae ?_))
 have:=Gl s
 exact Jn (A:=s.2.1.length) (B:=s.2.2.1.length) (C:=0) (D:=0) (Nat.le_refl _) (Nat.le_refl _) (by simp[Bf]) (by simp[Av,C4]) h.2.1 Fp zq0
theorem Zc {b:List YB} {a0:Ap} (hc:Bw b a0):Tot (fun r=>SP 20000 r.1∧Bw b r.2) (L7 a0):=by
 unfold L7 W6
 simp only[Ah,Ai,Ab,Am]
 refine Ag (Vb hc) (fun r1 ⟨h1,h1c⟩=>?_)
 obtain⟨k1,k2,k3,k4⟩:=Zb h1
 refine Ag (Ba _ (Ad hc h1c) zq3) (fun r2 ⟨_,h2c⟩=>?_)
 have same:SP 20000 r1.1:=⟨Nat.le_trans h1.1 zq3,h1.2⟩
 refine An (fun _=>?_) (fun _=>?_)
 ·exact Ag (Bh _ 0 10 (Ad hc h2c) zq3 zq3) (fun r3 ⟨_,h3c⟩=>Ae ⟨Jn k1 k2 k3 k4 h1.2.1 h1.2.2 zq3,Ad hc h3c⟩)
 refine An (fun _=>?_) (fun _=>?_)
 ·exact Ag (Ch _ (Ad hc h2c) zq3) (fun r3 ⟨⟨h3,_⟩,h3c⟩=>Ae ⟨Jn (A:=11) (Nat.le_of_eq h3) k2 k3 k4 h1.2.1 h1.2.2 zq3,Ad hc h3c⟩)
 refine An (fun _=>?_) (fun _=>?_)
 ·refine Ag (Bh _ 11 12 (Ad hc h2c) zq3 zq3) (fun r3 ⟨h3,h3c⟩=>?_)
  exact Ag (Ch _ (Ad hc h3c) zq0) (fun r4 ⟨⟨h4,h4w⟩,h4c⟩=>Ae ⟨Jn (B:=12) k1 zq0 k3 k4 h4w h1.2.2 zq3,Ad hc h4c⟩)
 refine An (fun _=>?_) (fun _=>?_)
 ·exact Ag (Atb (Ad hc h2c)) (fun r3 ⟨⟨h3,h3w⟩,h3c⟩=>Ae ⟨Jn k1 k2 h3 k4 h1.2.1 h3w zq3,Ad hc h3c⟩)
 refine An (fun _=>?_) (fun _=>?_)
 ·exact Ag (Atc (Ad hc h2c)) (fun r3 ⟨h3,h3c⟩=>Ae ⟨Jn k1 k2 k3 h3 h1.2.1 h1.2.2 zq3,Ad hc h3c⟩)
 refine An (fun _=>?_) (fun _=>?_)
 ·exact Ag (Bh _ (-1) 1000001 (Ad hc h2c) zq3 zq3) (fun r3 ⟨_,h3c⟩=>Ae ⟨Jn k1 k2 k3 k4 h1.2.1 h1.2.2 zq3,Ad hc h3c⟩)
 refine An (fun _=>?_) (fun _=>?_)
 ·exact Ag (Bh _ (-1) 1000001 (Ad hc h2c) zq3 zq3) (fun r3 ⟨_,h3c⟩=>Ae ⟨Jn k1 k2 k3 k4 h1.2.1 h1.2.2 zq3,Ad hc h3c⟩)
 refine An (fun _=>?_) (fun _=>?_)
 ·exact Ae ⟨Jn k1 k2 k3 k4 h1.2.1 h1.2.2 zq3,Ad hc h2c⟩
 refine An (fun _=>?_) (fun _=>?_)
 ·exact Ag (Oy _ same zq3) (fun r3 h3=>Ae ⟨h3,Ad hc h2c⟩)
 refine An (fun _=>?_) (fun _=>?_)
 ·exact Ag (Oy _ same zq3) (fun r3 h3=>Ae ⟨h3,Ad hc h2c⟩)
 ·exact Ae ⟨same,Ad hc h2c⟩
end
end Go.Proofs.YtfljmgnghlpapaaGreat

/-
  That the program and the reference answer alike, in plain terms, and that the laws answer true.
-/
import Derived.Test.YtmhhajdeafijmaaGreatL55
namespace Go.Proofs.YtmhhajdeafijmaaGreat
open Go.RowKit
set_option linter.unusedVariables false
set_option linter.unusedSimpArgs false
set_option maxRecDepth 100000
set_option maxHeartbeats 8000000
noncomputable section
theorem Aua {N:Nat} (s:A4) (h:SP N s) (hN:N≤100000):Tot (SP N) (Ado s):=by
 have h1:=h.1
 have k:=Af5 h
 unfold Ado Am3
 simp only[Af,Ah,Ac,An,List.length_nil,List.nil_append,Nat.zero_add]
 rw[Anz s zq0,Ai]
 refine Ak (fun _=>?_) (fun _=>?_)
 ·rw[At4 s zq0,Ai];exact Ae h
 refine Eg (Al zq0) (Eg (Al zq0) (Ae ?_))
 have:=Qt s
 exact Mw (A:=s.2.1.length) (B:=s.2.2.1.length) (C:=0) (D:=0) (Nat.le_refl _) (Nat.le_refl _) (by simp[Ax]) (by simp[A0,Cm]) h.2.1 Fu zq0
theorem A3e {b:List YB} {a0:Av} (hc:Bx b a0):Tot (fun r=>SP 20000 r.1∧Bx b r.2) (Adq a0):=by
 unfold Adq Adp
 simp only[Af,Ah,Ac,An]
 refine Ad (A0p hc) (fun r1 ⟨h1,h1c⟩=>?_)
 obtain⟨k1,k2,k3,k4⟩:=Af5 h1
 refine Ad (Bb _ (Aa hc h1c) zq3) (fun r2 ⟨_,h2c⟩=>?_)
 have same:SP 20000 r1.1:=⟨Nat.le_trans h1.1 zq3,h1.2⟩
 refine Ak (fun _=>?_) (fun _=>?_)
 ·exact Ad (Bh _ 0 10 (Aa hc h2c) zq3 zq3) (fun r3 ⟨_,h3c⟩=>Ae ⟨Mw k1 k2 k3 k4 h1.2.1 h1.2.2 zq3,Aa hc h3c⟩)
 refine Ak (fun _=>?_) (fun _=>?_)
 ·exact Ad (Cn _ (Aa hc h2c) zq3) (fun r3 ⟨⟨h3,_⟩,h3c⟩=>Ae ⟨Mw (A:=11) (Nat.le_of_eq h3) k2 k3 k4 h1.2.1 h1.2.2 zq3,Aa hc h3c⟩)
 refine Ak (fun _=>?_) (fun _=>?_)
 ·refine Ad (Bh _ 11 12 (Aa hc h2c) zq3 zq3) (fun r3 ⟨h3,h3c⟩=>?_)
  exact Ad (Cn _ (Aa hc h3c) zq0) (fun r4 ⟨⟨h4,h4w⟩,h4c⟩=>Ae ⟨Mw (B:=12) k1 zq0 k3 k4 h4w h1.2.2 zq3,Aa hc h4c⟩)
 refine Ak (fun _=>?_) (fun _=>?_)
 ·exact Ad (A3c (Aa hc h2c)) (fun r3 ⟨⟨h3,h3w⟩,h3c⟩=>Ae ⟨Mw k1 k2 h3 k4 h1.2.1 h3w zq3,Aa hc h3c⟩)
 refine Ak (fun _=>?_) (fun _=>?_)
 ·exact Ad (A3d (Aa hc h2c)) (fun r3 ⟨h3,h3c⟩=>Ae ⟨Mw k1 k2 k3 h3 h1.2.1 h1.2.2 zq3,Aa hc h3c⟩)
 refine Ak (fun _=>?_) (fun _=>?_)
 ·exact Ad (Bh _ (-1) 1000001 (Aa hc h2c) zq3 zq3) (fun r3 ⟨_,h3c⟩=>Ae ⟨Mw k1 k2 k3 k4 h1.2.1 h1.2.2 zq3,Aa hc h3c⟩)
 refine Ak (fun _=>?_) (fun _=>?_)
 ·exact Ad (Bh _ (-1) 1000001 (Aa hc h2c) zq3 zq3) (fun r3 ⟨_,h3c⟩=>Ae ⟨Mw k1 k2 k3 k4 h1.2.1 h1.2.2 zq3,Aa hc h3c⟩)
 refine Ak (fun _=>?_) (fun _=>?_)
 ·exact Ae ⟨Mw k1 k2 k3 k4 h1.2.1 h1.2.2 zq3,Aa hc h2c⟩
 refine Ak (fun _=>?_) (fun _=>?_)
 ·exact Ad (Aua _ same zq3) (fun r3 h3=>Ae ⟨h3,Aa hc h2c⟩)
 refine Ak (fun _=>?_) (fun _=>?_)
 ·exact Ad (Aua _ same zq3) (fun r3 h3=>Ae ⟨h3,Aa hc h2c⟩)
 ·exact Ae ⟨same,Aa hc h2c⟩
theorem Ax4 {b:List YB} {a0:Av} (s:A4) (hc:Bx b a0) (h:SP 20000 s):Tot (fun r=>(Aq r.2.1≤50000∧wfB r.2.1.2.2.2.1)∧Bx b r.2.2) (Vv a0 s):=by
 obtain⟨k1,k2,k3,k4⟩:=Af5 h
 have fin: ∀(c:Av) (F:Au) (X:Bw),Aq F≤50000∧wfB F.2.2.2.1→Bx b c→c.1=a0.1→
   Tot (fun r:Bw×Au×Av=>(Aq r.2.1≤50000∧wfB r.2.1.2.2.2.1)∧Bx b r.2.2) (ob (Ao c ((12:Int),())) fun r=>br r.1.1 (ob (Dp (a0.1,r.2.2.1,r.2.2.2.1,())) fun q=>some (q.1,F,(a0.1,q.2.2.1,q.2.2.2.1,()))) (some (X,F,(a0.1,r.2.2.1,r.2.2.2.1,())))):=fun c F X hF hcc e=>by
  refine Ad (Aw _ hcc zq3) (fun r hr=>?_)
  refine Ak (fun _=>?_) (fun _=>Ae ⟨hF,Aa hc hr⟩)
  exact Ad (Aj5 (Aa hc hr)) (fun q hq=>Ae ⟨hF,Aa hc hq⟩)
 have sli: ∀(k:YBs) (r ep seq kind:YI) (p:YBs),p.1.length≤20000→Tot (fun q=>Aq q.1≤50000∧wfB q.1.2.2.2.1) (Bc k r (s.2.2.1,()) ep seq kind p):=fun k r ep seq kind p hp=>
  (Bt k r (s.2.2.1,()) ep seq kind p zq2 zq0).mono (fun q hq=>⟨Nat.le_trans hq.1 zq2,hq.2 h.2.1⟩)
 have hfr:=fun(c:Av) (hcc:Bx b c)=>(Ax1 (Ew s) hcc zq0 h.2.2).mono (fun r hr=>(⟨⟨Nat.le_trans hr.1.1 zq0,hr.1.2⟩,hr.2⟩:(Aq r.1≤50000∧wfB r.1.2.2.2.1)∧Bx b r.2))
 unfold Vv Vu
 simp only[Af,Ah,Ac,An]
 refine Ad (Aw _ hc zq3) (fun r1 h1c=>?_)
 refine Ak (fun _=>Ad (Bb _ (Aa hc h1c) zq3) (fun r2 ⟨_,h2c⟩=>Ad (W8 _) (fun r3 _=>Ad (hfr _ (Aa hc h2c)) (fun r4 ⟨h4,h4c⟩=>?_)))) (fun _=>Ad (hfr _ (Aa hc h1c)) (fun r4 ⟨h4,h4c⟩=>?_))
 all_goals
  refine Ad (Bb _ (Aa hc h4c) zq3) (fun r5 ⟨_,h5c⟩=>?_)
  refine Ak (fun _=>?_) (fun _=>Ak (fun _=>Ak (fun _=>?_) (fun _=>?_)) (fun _=>fin _ _ _ h4 (Aa hc h5c) rfl))
  ·refine Ak (fun hb=>?_) (fun _=>fin _ _ _ h4 (Aa hc h5c) rfl)
   have hb:=of_decide_eq_true hb
   have hl:(B4 s).2.2.1.length≤20000:=Nat.le_trans (by simp only[A0];omega) k4
   refine Ad (Bb _ (Aa hc h5c) (by dsimp only at hl ⊢;omega)) (fun r6 ⟨⟨h6,h6b⟩,h6c⟩=>?_)
   dsimp only at h6b
   refine Ad (Mv (P:=fun e=>e.2.2.1.length≤20000) h6 zq0 (fun x hx=>?_)) (fun e he=>?_)
   ·have:=Af6 (f:=Cf) hx
    have k4':(B4 s).2.2.1.length+Cm Cf (B4 s).2.2.1≤20000:=k4
    simp only[Cf]at this
    dsimp only at k4'
    omega
   ·exact Ad (sli _ _ _ _ _ _ he) (fun q hq=>fin _ _ _ hq (Aa hc h6c) rfl)
  ·refine Ad (Aw _ (Aa hc h5c) zq3) (fun r6 h6c=>?_)
   refine Ak (fun _=>?_) (fun _=>?_)
   ·exact Ad (Ue _) (fun r7 h7=>Ad (sli _ _ _ _ _ _ zq0) (fun q hq=>fin _ _ _ hq (Aa hc h6c) rfl))
   ·exact Ad (Ue _) (fun r7 h7=>Ad (sli _ _ _ _ _ _ zq0) (fun q hq=>fin _ _ _ hq (Aa hc h6c) rfl))
  ·exact Ad (Ue _) (fun r7 h7=>Ad (sli _ _ _ _ _ _ zq0) (fun q hq=>fin _ _ _ hq (Aa hc h5c) rfl))
theorem An9 (a0:YBs) (hl:a0.1.length≤1048576):Tot (fun r=>SP 20000 r.1∧(Aq r.2.2.2.1≤50000∧wfB r.2.2.2.1.2.2.2.1)∧r.2.2.2.2.1.length≤12) (N9 a0):=by
 unfold N9 N8
 simp only[Af,Ah,Ac,An]
 refine Ad (A5s _ hl) (fun r1 h1c=>?_)
 refine Ad (A3e h1c) (fun r2 ⟨h2,h2c⟩=>?_)
 refine Ad (Ax4 _ (Aa h1c h2c) h2) (fun r3 ⟨h3,h3c⟩=>?_)
 have c3:Bx a0.1 (r1.1,r3.2.2.2.1,r3.2.2.2.2.1,()):=by have:=Aa h1c h3c;exact this
 refine Ad (Bh _ (-1) 1000001 c3 zq3 zq3) (fun r4 ⟨_,h4c⟩=>?_)
 refine Ad (Bh _ 0 12 (Aa h1c h4c) zq3 zq3) (fun r5 ⟨h5,h5c⟩=>?_)
 exact Ad (Cn _ (Aa h1c h5c) zq0) (fun r6 ⟨⟨h6,_⟩,_⟩=>Ae ⟨h2,h3,by dsimp only;omega⟩)
end
end Go.Proofs.YtmhhajdeafijmaaGreat

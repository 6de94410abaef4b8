/-
  That the program and the reference answer alike, in plain terms, and that the laws answer true.
-/
import Derived.Test.YtmhhajdeafijmaaGreatL55
namespace Go.Proofs.YtmhhajdeafijmaaGreat
open Go.RowKit
set_option linter.unusedVariables false
set_option linter.unusedSimpArgs false
set_option maxRecDepth 100000
set_option maxHeartbeats 8000000
noncomputable section
theorem Axw {b:List YB} {a0:Az} (s:Bd) (hc:B9 b a0) (h:SP 20000 s):Tot (fun r=>(Ar r.2.1≤50000∧wfB r.2.1.2.2.2.1)∧B9 b r.2.2) (W8 a0 s):=by
 obtain⟨k1,k2,k3,k4⟩:=Axu h
 have fin: ∀(c:Az) (F:Aq) (X:Bu),Ar F≤50000∧wfB F.2.2.2.1→B9 b c→c.1=a0.1→
   Tot (fun r:Bu×Aq×Az=>(Ar r.2.1≤50000∧wfB r.2.1.2.2.2.1)∧B9 b r.2.2) (ob (Ap c ((12:Int),())) fun r=>br r.1.1 (ob (Eh (a0.1,r.2.2.1,r.2.2.2.1,())) fun q=>some (q.1,F,(a0.1,q.2.2.1,q.2.2.2.1,()))) (some (X,F,(a0.1,r.2.2.1,r.2.2.2.1,())))):=fun c F X hF hcc e=>by
  refine Ad (As _ hcc zq4) (fun r hr=>?_)
  refine Ao (fun _=>?_) (fun _=>Ah ⟨hF,Ab hc hr⟩)
  exact Ad (A5r (Ab hc hr)) (fun q hq=>Ah ⟨hF,Ab hc hq⟩)
 have sli: ∀(k:YBs) (r ep seq kind:YI) (p:YBs),p.1.length≤20000→Tot (fun q=>Ar q.1≤50000∧wfB q.1.2.2.2.1) (Bh k r (s.2.2.1,()) ep seq kind p):=fun k r ep seq kind p hp=>
  (Bz k r (s.2.2.1,()) ep seq kind p zq2 zq0).mono (fun q hq=>⟨Nat.le_trans hq.1 zq2,hq.2 h.2.1⟩)
 have hfr:=fun(c:Az) (hcc:B9 b c)=>(Axs (Ck s) hcc zq0 h.2.2).mono (fun r hr=>(⟨⟨Nat.le_trans hr.1.1 zq0,hr.1.2⟩,hr.2⟩:(Ar r.1≤50000∧wfB r.1.2.2.2.1)∧B9 b r.2))
 unfold W8 Wm
 simp only[Ae,Ai,Ac,Ak]
 refine Ad (As _ hc zq4) (fun r1 h1c=>?_)
 refine Ao (fun _=>Ad (Bg _ (Ab hc h1c) zq4) (fun r2 ⟨_,h2c⟩=>Ad (Sz _) (fun r3 _=>Ad (hfr _ (Ab hc h2c)) (fun r4 ⟨h4,h4c⟩=>?_)))) (fun _=>Ad (hfr _ (Ab hc h1c)) (fun r4 ⟨h4,h4c⟩=>?_))
 all_goals
  refine Ad (Bg _ (Ab hc h4c) zq4) (fun r5 ⟨_,h5c⟩=>?_)
  refine Ao (fun _=>?_) (fun _=>Ao (fun _=>Ao (fun _=>?_) (fun _=>?_)) (fun _=>fin _ _ _ h4 (Ab hc h5c) rfl))
  ·refine Ao (fun hb=>?_) (fun _=>fin _ _ _ h4 (Ab hc h5c) rfl)
   have hb:=of_decide_eq_true hb
   have hl:(A5 s).2.2.1.length≤20000:=Nat.le_trans (by simp only[Au];omega) k4
   refine Ad (Bg _ (Ab hc h5c) (by dsimp only at hl ⊢;omega)) (fun r6 ⟨⟨h6,h6b⟩,h6c⟩=>?_)
   dsimp only at h6b
   refine Ad (Pq (P:=fun e=>e.2.2.1.length≤20000) h6 zq0 (fun x hx=>?_)) (fun e he=>?_)
   ·have:=An1 (f:=Ea) hx
    have k4':(A5 s).2.2.1.length+Dg Ea (A5 s).2.2.1≤20000:=k4
    simp only[Ea]at this
    dsimp only at k4'
    omega
   ·exact Ad (sli _ _ _ _ _ _ he) (fun q hq=>fin _ _ _ hq (Ab hc h6c) rfl)
  ·refine Ad (As _ (Ab hc h5c) zq4) (fun r6 h6c=>?_)
   refine Ao (fun _=>?_) (fun _=>?_)
   ·exact Ad (U4 _) (fun r7 h7=>Ad (sli _ _ _ _ _ _ zq0) (fun q hq=>fin _ _ _ hq (Ab hc h6c) rfl))
   ·exact Ad (U4 _) (fun r7 h7=>Ad (sli _ _ _ _ _ _ zq0) (fun q hq=>fin _ _ _ hq (Ab hc h6c) rfl))
  ·exact Ad (U4 _) (fun r7 h7=>Ad (sli _ _ _ _ _ _ zq0) (fun q hq=>fin _ _ _ hq (Ab hc h5c) rfl))
end
end Go.Proofs.YtmhhajdeafijmaaGreat

/-
  That the program and the reference answer alike, in plain terms, and that the laws answer true.
-/
import Derived.Test.YtmhhajdeafijmaaGreatL41
namespace Go.Proofs.YtmhhajdeafijmaaGreat
open Go.RowKit
set_option linter.unusedVariables false
set_option linter.unusedSimpArgs false
set_option maxRecDepth 100000
set_option maxHeartbeats 8000000
noncomputable section
theorem A11 {b:List YB} {a0:A7} (n:YI) (hc:Ck b a0):Tot (fun r=>Ck b r.2) (My a0 n):=by
 unfold My R4
 simp only[Ag,Ai,Ad,Ao]
 refine Aq (Pz _) (fun r1 _=>?_)
 refine Aq (Ch _ hc zq4) (fun r2 ⟨⟨h1,h2⟩,h2c⟩=>?_)
 dsimp only at h2
 have hloop: ∀q1 q2 q3 q4,Tot (fun o:(List YB)×Int×Int×Bool×Int×Int×Int×Bool×Int×Int×Int×Unit=>Ck b (o.1,o.2.1,o.2.2.1,())) (Ay Hw (r2.1.1,a0.1,r2.2.2.1,r2.2.2.2.1,false,(0:Int),(0:Int),(0:Int),q1,q2,q3,q4,())):=by
  intro q1 q2 q3 q4
  refine Mf (fun i d=>d.1=r2.1.1-i∧Ck b (d.2.1,d.2.2.1,d.2.2.2.1,())) _ r2.1.1.toNat ?_ ⟨by dsimp only;omega,Ap hc h2c⟩
  rintro i ⟨k,c1,c2,c3,e1,e2,e3,e4,e5,e6,e7,e8,⟨⟩⟩ hi ⟨g1,g2⟩
  dsimp only at g1 g2
  unfold Hw
  simp only[Ag,Ai,Ad,Ao]
  refine Ax (fun h=>?_) (fun h=>Ak (.inr ⟨_,rfl,g2⟩))
  have h:=of_decide_eq_true h
  refine Aq (Ua _ _) (fun r _=>Ak (.inl ⟨_,rfl,by omega,?_,g2⟩))
  dsimp only
  rw[w64 zq0];omega
 exact Aq (hloop _ _ _ _) (fun o ho=>Ak ho)
theorem A4z (w:Bn) (n:YI) (h:w.2.1.length=32):Tot (fun r=>r.1.2.1.length=32) (Pk w n):=by
 have hn:=Ad3 w n.1
 simp only[Dx]at hn
 rw[Aqi w n zq0]
 cases Fu w n.1 with
 |false=>exact Ak h
 |true=>exact Ak (by show(Gt w n.1).2.1.length=32;omega)
theorem A7c (l:(List YI)×Unit) (hl:l.1.length≤1000):Tot (fun r=>r.2.1.length=32) (S6 l):=by
 unfold S6 Abh
 simp only[Ag,Ai,Ad,Ao]
 rw[Aaw,Aax]
 simp only[Aj]
 have hloop:Tot (fun o:Int×(List YI)×Int×(List YI)×Unit=>o.2.2.2.1.length=32) (Ay Mp (l.1,(0:Int),(0:Int),([]:List YI),Tc.1,Tc.2.1,())):=by
  refine Mf (fun i d=>d.1=l.1∧d.2.1=(i:Int)∧d.2.2.2.2.2.1.length=32) _ l.1.length ?_ ⟨rfl,rfl,by simp[Tc]⟩
  rintro i ⟨m,k,a1,a2,a3,a4,⟨⟩⟩ hi ⟨g1,g2,g3⟩
  dsimp only at g1 g2 g3
  subst g1 g2
  unfold Mp
  simp only[Ag,Ai,Ad,Ao]
  refine Ax (fun h=>?_) (fun h=>Ak (.inr ⟨_,rfl,g3⟩))
  have h:=of_decide_eq_true h
  refine Aq (Afk (P:=fun _=>True) zq0 h (fun _ _=>trivial)) (fun e _=>?_)
  refine Aq (A4z _ _ g3) (fun r hr=>Ak (.inl ⟨_,rfl,by omega,rfl,?_,hr⟩))
  show IntKind.i64.wrap ((i:Int)+1)=((i+1:Nat):Int)
  rw[w64 zq0];omega
 exact Aq hloop (fun o ho=>Ak ho)
theorem Asq {b:List YB} {a0:A7} (n:YI) (hc:Ck b a0) (hn:0≤n.1∧n.1≤20):Tot (fun r=>r.1.1.length≤1000∧Ck b r.2) (Aht a0 n):=by
 unfold Aht Ags
 simp only[Ag,Ai,Ad,Ao]
 refine Aq (C9 _ (0) (281474976710000) hc zq4 zq4) (fun r1 ⟨_,h1c⟩=>?_)
 have hw:IntKind.i64.wrap (n.1+1)=n.1+1:=w64 zq0
 refine Aq (Ch _ (Ap hc h1c) zq2) (fun r2 ⟨⟨h1,h2⟩,h2c⟩=>?_)
 dsimp only at h2
 have hloop: ∀q,Tot (fun o:(List YI)×(List YB)×Int×Int×Unit=>o.1.length≤999∧Ck b (o.2.1,o.2.2.1,o.2.2.2.1,())) (Ay O5 (([]:List YI),q,r2.1.1,a0.1,r2.2.2.1,r2.2.2.2.1,())):=by
  intro q
  refine Mf (fun i d=>d.1.length=i∧d.2.2.1=r2.1.1-i∧Ck b (d.2.2.2.1,d.2.2.2.2.1,d.2.2.2.2.2.1,())) _ r2.1.1.toNat ?_ ⟨rfl,by dsimp only;omega,Ap hc h2c⟩
  rintro i ⟨l,q,k,c1,c2,c3,⟨⟩⟩ hi ⟨g1,g2,g3⟩
  dsimp only at g1 g2 g3
  unfold O5
  simp only[Ag,Ai,Ad,Ao]
  refine Ax (fun h=>?_) (fun h=>Ak (.inr ⟨_,rfl,by dsimp only;omega,g3⟩))
  have h:=of_decide_eq_true h
  refine Aq (Cw _ g3 zq4) (fun r4 h4c=>?_)
  refine Ax (fun _=>?_) (fun _=>?_)
  ·refine Aq (C9 _ (1) (3000) (Ap g3 h4c) zq4 zq4) (fun r5 ⟨_,h5c⟩=>?_)
   refine Aq (Ch _ (Ap g3 h5c) zq4) (fun r6 ⟨_,h6c⟩=>?_)
   refine Aq (C9 _ (0) (1000) (Ap g3 h6c) zq4 zq4) (fun r7 ⟨_,h7c⟩=>?_)
   refine Hk (Am zq1) (Ak (.inl ⟨_,rfl,by omega,by simp;omega,?_,(by have:=Ap g3 h7c;exact this)⟩))
   dsimp only
   rw[w64 zq0];omega
  ·refine Aq (Ch _ (Ap g3 h4c) zq4) (fun r6 ⟨_,h6c⟩=>?_)
   refine Aq (C9 _ (0) (1000) (Ap g3 h6c) zq4 zq4) (fun r7 ⟨_,h7c⟩=>?_)
   refine Hk (Am zq1) (Ak (.inl ⟨_,rfl,by omega,by simp;omega,?_,(by have:=Ap g3 h7c;exact this)⟩))
   dsimp only
   rw[w64 zq0];omega
 refine Aq (hloop _) (fun o ⟨ho,hoc⟩=>?_)
 refine Aq (Cw _ hoc zq4) (fun r11 h11c=>?_)
 refine Ax (fun _=>?_) (fun _=>?_)
 ·refine Aq (C9 _ (-1) (281474976710656) (Ap hoc h11c) zq4 zq4) (fun r12 ⟨_,h12c⟩=>?_)
  exact Hk (Am zq1) (Ak ⟨by simp;omega,Ap hoc h12c⟩)
 ·exact Ak ⟨by dsimp only;omega,Ap hoc h11c⟩
end
end Go.Proofs.YtmhhajdeafijmaaGreat

/-
  That the program and the reference answer alike, in plain terms, and that the laws answer true.
-/
import Derived.Test.YtfljmgnghlpapaaGreatL41
namespace Go.Proofs.YtfljmgnghlpapaaGreat
open Go.RowKit
set_option linter.unusedVariables false
set_option linter.unusedSimpArgs false
set_option maxRecDepth 100000
set_option maxHeartbeats 8000000
noncomputable section
theorem A8s (w:Cj) (n:YI) (h:w.2.1.length=32):Tot (fun r=>r.1.2.1.length=32) (Vk w n):=by
 have hn:=A5o w n.1
 simp only[E6]at hn
 rw[Bdn w n zq0]
 cases Aej w n.1 with
 |false=>exact Ah h
 |true=>exact Ah (by show(Amy w n.1).2.1.length=32;omega)
theorem Bbf (l:(List YI)×Unit) (hl:l.1.length≤1000):Tot (fun r=>r.2.1.length=32) (Amd l):=by
 unfold Amd Aks
 simp only[Ac,Ae,Ab,Al]
 rw[A2n,A2o]
 simp only[Ai]
 have hloop:Tot (fun o:Int×(List YI)×Int×(List YI)×Unit=>o.2.2.2.1.length=32) (As Si (l.1,(0:Int),(0:Int),([]:List YI),Amv.1,Amv.2.1,())):=by
  refine Qu (fun i d=>d.1=l.1∧d.2.1=(i:Int)∧d.2.2.2.2.2.1.length=32) _ l.1.length ?_ ⟨rfl,rfl,by simp[Amv]⟩
  rintro i ⟨m,k,a1,a2,a3,a4,⟨⟩⟩ hi ⟨g1,g2,g3⟩
  dsimp only at g1 g2 g3
  subst g1 g2
  unfold Si
  simp only[Ac,Ae,Ab,Al]
  refine Ar (fun h=>?_) (fun h=>Ah (.inr ⟨_,rfl,g3⟩))
  have h:=of_decide_eq_true h
  refine Aj (D8 (P:=fun _=>True) zq0 h (fun _ _=>trivial)) (fun e _=>?_)
  refine Aj (A8s _ _ g3) (fun r hr=>Ah (.inl ⟨_,rfl,by omega,rfl,?_,hr⟩))
  show IntKind.i64.wrap ((i:Int)+1)=((i+1:Nat):Int)
  rw[w64 zq0];omega
 exact Aj hloop (fun o ho=>Ah ho)
theorem A8t {b:List YB} {a0:Aq} (n:YI) (hc:Bn b a0) (hn:0≤n.1∧n.1≤20):Tot (fun r=>r.1.1.length≤1000∧Bn b r.2) (Ahc a0 n):=by
 unfold Ahc Afn
 simp only[Ac,Ae,Ab,Al]
 refine Aj (Bv _ (0) (281474976710000) hc zq4 zq4) (fun r1 ⟨_,h1c⟩=>?_)
 have hw:IntKind.i64.wrap (n.1+1)=n.1+1:=w64 zq0
 refine Aj (A9 _ (Ag hc h1c) zq2) (fun r2 ⟨⟨h1,h2⟩,h2c⟩=>?_)
 dsimp only at h2
 have hloop: ∀q,Tot (fun o:(List YI)×(List YB)×Int×Int×Unit=>o.1.length≤999∧Bn b (o.2.1,o.2.2.1,o.2.2.2.1,())) (As Ps (([]:List YI),q,r2.1.1,a0.1,r2.2.2.1,r2.2.2.2.1,())):=by
  intro q
  refine Qu (fun i d=>d.1.length=i∧d.2.2.1=r2.1.1-i∧Bn b (d.2.2.2.1,d.2.2.2.2.1,d.2.2.2.2.2.1,())) _ r2.1.1.toNat ?_ ⟨rfl,by dsimp only;omega,Ag hc h2c⟩
  rintro i ⟨l,q,k,c1,c2,c3,⟨⟩⟩ hi ⟨g1,g2,g3⟩
  dsimp only at g1 g2 g3
  unfold Ps
  simp only[Ac,Ae,Ab,Al]
  refine Ar (fun h=>?_) (fun h=>Ah (.inr ⟨_,rfl,by dsimp only;omega,g3⟩))
  have h:=of_decide_eq_true h
  refine Aj (Cr _ g3 zq4) (fun r4 h4c=>?_)
  refine Ar (fun _=>?_) (fun _=>?_)
  ·refine Aj (Bv _ (1) (3000) (Ag g3 h4c) zq4 zq4) (fun r5 ⟨_,h5c⟩=>?_)
   refine Aj (A9 _ (Ag g3 h5c) zq4) (fun r6 ⟨_,h6c⟩=>?_)
   refine Aj (Bv _ (0) (1000) (Ag g3 h6c) zq4 zq4) (fun r7 ⟨_,h7c⟩=>?_)
   refine Dh (An zq1) (Ah (.inl ⟨_,rfl,by omega,by simp;omega,?_,(by have:=Ag g3 h7c;exact this)⟩))
   dsimp only
   rw[w64 zq0];omega
  ·refine Aj (A9 _ (Ag g3 h4c) zq4) (fun r6 ⟨_,h6c⟩=>?_)
   refine Aj (Bv _ (0) (1000) (Ag g3 h6c) zq4 zq4) (fun r7 ⟨_,h7c⟩=>?_)
   refine Dh (An zq1) (Ah (.inl ⟨_,rfl,by omega,by simp;omega,?_,(by have:=Ag g3 h7c;exact this)⟩))
   dsimp only
   rw[w64 zq0];omega
 refine Aj (hloop _) (fun o ⟨ho,hoc⟩=>?_)
 refine Aj (Cr _ hoc zq4) (fun r11 h11c=>?_)
 refine Ar (fun _=>?_) (fun _=>?_)
 ·refine Aj (Bv _ (-1) (281474976710656) (Ag hoc h11c) zq4 zq4) (fun r12 ⟨_,h12c⟩=>?_)
  exact Dh (An zq1) (Ah ⟨by simp;omega,Ag hoc h12c⟩)
 ·exact Ah ⟨by dsimp only;omega,Ag hoc h11c⟩
end
end Go.Proofs.YtfljmgnghlpapaaGreat

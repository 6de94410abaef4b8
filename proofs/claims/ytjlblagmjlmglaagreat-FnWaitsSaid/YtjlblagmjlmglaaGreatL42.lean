/-
  That the program and the reference answer alike, in plain terms, and that the laws answer true.
-/
import Derived.Test.YtjlblagmjlmglaaGreatL41
namespace Go.Proofs.YtjlblagmjlmglaaGreat
open Go.RowKit
set_option linter.unusedVariables false
set_option linter.unusedSimpArgs false
set_option maxRecDepth 100000
set_option maxHeartbeats 8000000
noncomputable section
theorem Aoo {b:List YB} {a0:Aw} (n:YI) (hc:Cd b a0):Tot (fun r=>Cd b r.2) (Rq a0 n):=by
 unfold Rq Ace
 simp only[Ai,Aj,Ad,Ap]
 refine Am (Ph _) (fun r1 _=>?_)
 refine Am (Bj _ hc zq4) (fun r2 ⟨⟨h1,h2⟩,h2c⟩=>?_)
 dsimp only at h2
 have hloop: ∀q1 q2 q3 q4,Tot (fun o:(List YB)×Int×Int×Bool×Int×Int×Int×Bool×Int×Int×Int×Unit=>Cd b (o.1,o.2.1,o.2.2.1,())) (Az Mx (r2.1.1,a0.1,r2.2.2.1,r2.2.2.2.1,false,(0:Int),(0:Int),(0:Int),q1,q2,q3,q4,())):=by
  intro q1 q2 q3 q4
  refine Wy (fun i d=>d.1=r2.1.1-i∧Cd b (d.2.1,d.2.2.1,d.2.2.2.1,())) _ r2.1.1.toNat ?_ ⟨by dsimp only;omega,Ag hc h2c⟩
  rintro i ⟨k,c1,c2,c3,e1,e2,e3,e4,e5,e6,e7,e8,⟨⟩⟩ hi ⟨g1,g2⟩
  dsimp only at g1 g2
  unfold Mx
  simp only[Ai,Aj,Ad,Ap]
  refine As (fun h=>?_) (fun h=>Ak (.inr ⟨_,rfl,g2⟩))
  have h:=of_decide_eq_true h
  refine Am (To _ _) (fun r _=>Ak (.inl ⟨_,rfl,by omega,?_,g2⟩))
  dsimp only
  rw[w64 zq0];omega
 exact Am (hloop _ _ _ _) (fun o ho=>Ak ho)
theorem A5i (w:Bp) (n:YI) (h:w.2.1.length=32):Tot (fun r=>r.1.2.1.length=32) (Oz w n):=by
 have hn:=Aoi w n.1
 simp only[D0]at hn
 rw[Azs w n zq0]
 cases Gj w n.1 with
 |false=>exact Ak h
 |true=>exact Ak (by show(Hi w n.1).2.1.length=32;omega)
theorem A77 (l:(List YI)×Unit) (hl:l.1.length≤1000):Tot (fun r=>r.2.1.length=32) (Ak9 l):=by
 unfold Ak9 Akc
 simp only[Ai,Aj,Ad,Ap]
 rw[Ah1,Ah2]
 simp only[Al]
 have hloop:Tot (fun o:Int×(List YI)×Int×(List YI)×Unit=>o.2.2.2.1.length=32) (Az Rh (l.1,(0:Int),(0:Int),([]:List YI),Z8.1,Z8.2.1,())):=by
  refine Wy (fun i d=>d.1=l.1∧d.2.1=(i:Int)∧d.2.2.2.2.2.1.length=32) _ l.1.length ?_ ⟨rfl,rfl,by simp[Z8]⟩
  rintro i ⟨m,k,a1,a2,a3,a4,⟨⟩⟩ hi ⟨g1,g2,g3⟩
  dsimp only at g1 g2 g3
  subst g1 g2
  unfold Rh
  simp only[Ai,Aj,Ad,Ap]
  refine As (fun h=>?_) (fun h=>Ak (.inr ⟨_,rfl,g3⟩))
  have h:=of_decide_eq_true h
  refine Am (Aey (P:=fun _=>True) zq0 h (fun _ _=>trivial)) (fun e _=>?_)
  refine Am (A5i _ _ g3) (fun r hr=>Ak (.inl ⟨_,rfl,by omega,rfl,?_,hr⟩))
  show IntKind.i64.wrap ((i:Int)+1)=((i+1:Nat):Int)
  rw[w64 zq0];omega
 exact Am hloop (fun o ho=>Ak ho)
theorem A5j {b:List YB} {a0:Aw} (n:YI) (hc:Cd b a0) (hn:0≤n.1∧n.1≤20):Tot (fun r=>r.1.1.length≤1000∧Cd b r.2) (Ag7 a0 n):=by
 unfold Ag7 Af5
 simp only[Ai,Aj,Ad,Ap]
 refine Am (A7 _ (0) (281474976710000) hc zq4 zq4) (fun r1 ⟨_,h1c⟩=>?_)
 have hw:IntKind.i64.wrap (n.1+1)=n.1+1:=w64 zq0
 refine Am (Bj _ (Ag hc h1c) zq2) (fun r2 ⟨⟨h1,h2⟩,h2c⟩=>?_)
 dsimp only at h2
 have hloop: ∀q,Tot (fun o:(List YI)×(List YB)×Int×Int×Unit=>o.1.length≤999∧Cd b (o.2.1,o.2.2.1,o.2.2.2.1,())) (Az Oh (([]:List YI),q,r2.1.1,a0.1,r2.2.2.1,r2.2.2.2.1,())):=by
  intro q
  refine Wy (fun i d=>d.1.length=i∧d.2.2.1=r2.1.1-i∧Cd b (d.2.2.2.1,d.2.2.2.2.1,d.2.2.2.2.2.1,())) _ r2.1.1.toNat ?_ ⟨rfl,by dsimp only;omega,Ag hc h2c⟩
  rintro i ⟨l,q,k,c1,c2,c3,⟨⟩⟩ hi ⟨g1,g2,g3⟩
  dsimp only at g1 g2 g3
  unfold Oh
  simp only[Ai,Aj,Ad,Ap]
  refine As (fun h=>?_) (fun h=>Ak (.inr ⟨_,rfl,by dsimp only;omega,g3⟩))
  have h:=of_decide_eq_true h
  refine Am (Cz _ g3 zq4) (fun r4 h4c=>?_)
  refine As (fun _=>?_) (fun _=>?_)
  ·refine Am (A7 _ (1) (3000) (Ag g3 h4c) zq4 zq4) (fun r5 ⟨_,h5c⟩=>?_)
   refine Am (Bj _ (Ag g3 h5c) zq4) (fun r6 ⟨_,h6c⟩=>?_)
   refine Am (A7 _ (0) (1000) (Ag g3 h6c) zq4 zq4) (fun r7 ⟨_,h7c⟩=>?_)
   refine Fd (Ao zq1) (Ak (.inl ⟨_,rfl,by omega,by simp;omega,?_,(by have:=Ag g3 h7c;exact this)⟩))
   dsimp only
   rw[w64 zq0];omega
  ·refine Am (Bj _ (Ag g3 h4c) zq4) (fun r6 ⟨_,h6c⟩=>?_)
   refine Am (A7 _ (0) (1000) (Ag g3 h6c) zq4 zq4) (fun r7 ⟨_,h7c⟩=>?_)
   refine Fd (Ao zq1) (Ak (.inl ⟨_,rfl,by omega,by simp;omega,?_,(by have:=Ag g3 h7c;exact this)⟩))
   dsimp only
   rw[w64 zq0];omega
 refine Am (hloop _) (fun o ⟨ho,hoc⟩=>?_)
 refine Am (Cz _ hoc zq4) (fun r11 h11c=>?_)
 refine As (fun _=>?_) (fun _=>?_)
 ·refine Am (A7 _ (-1) (281474976710656) (Ag hoc h11c) zq4 zq4) (fun r12 ⟨_,h12c⟩=>?_)
  exact Fd (Ao zq1) (Ak ⟨by simp;omega,Ag hoc h12c⟩)
 ·exact Ak ⟨by dsimp only;omega,Ag hoc h11c⟩
end
end Go.Proofs.YtjlblagmjlmglaaGreat

/-
  That the program and the reference answer alike, in plain terms, and that the laws answer true.
-/
import Derived.Test.YtmhhajdeafijmaaGreatL41
namespace Go.Proofs.YtmhhajdeafijmaaGreat
open Go.RowKit
set_option linter.unusedVariables false
set_option linter.unusedSimpArgs false
set_option maxRecDepth 100000
set_option maxHeartbeats 8000000
noncomputable section
theorem Ao5 {b:List YB} {a0:Au} (n:YI) (hc:Bu b a0):Tot (fun r=>Bu b r.2) (Rc a0 n):=by
 unfold Rc Acg
 simp only[Aj,Al,Af,Aq]
 refine Ae (Pk _) (fun r1 _=>?_)
 refine Ae (Ba _ hc zq4) (fun r2 ⟨⟨h1,h2⟩,h2c⟩=>?_)
 dsimp only at h2
 have hloop: ∀q1 q2 q3 q4,Tot (fun o:(List YB)×Int×Int×Bool×Int×Int×Int×Bool×Int×Int×Int×Unit=>Bu b (o.1,o.2.1,o.2.2.1,())) (A1 Mt (r2.1.1,a0.1,r2.2.2.1,r2.2.2.2.1,false,(0:Int),(0:Int),(0:Int),q1,q2,q3,q4,())):=by
  intro q1 q2 q3 q4
  refine Wz (fun i d=>d.1=r2.1.1-i∧Bu b (d.2.1,d.2.2.1,d.2.2.2.1,())) _ r2.1.1.toNat ?_ ⟨by dsimp only;omega,Aa hc h2c⟩
  rintro i ⟨k,c1,c2,c3,e1,e2,e3,e4,e5,e6,e7,e8,⟨⟩⟩ hi ⟨g1,g2⟩
  dsimp only at g1 g2
  unfold Mt
  simp only[Aj,Al,Af,Aq]
  refine Am (fun h=>?_) (fun h=>Ag (.inr ⟨_,rfl,g2⟩))
  have h:=of_decide_eq_true h
  refine Ae (Tq _ _) (fun r _=>Ag (.inl ⟨_,rfl,by omega,?_,g2⟩))
  dsimp only
  rw[w64 zq0];omega
 exact Ae (hloop _ _ _ _) (fun o ho=>Ag ho)
theorem A5r (w:Bs) (n:YI) (h:w.2.1.length=32):Tot (fun r=>r.1.2.1.length=32) (Ob w n):=by
 have hn:=Aoz w n.1
 simp only[Ds]at hn
 rw[Azz w n zq0]
 cases Ga w n.1 with
 |false=>exact Ag h
 |true=>exact Ag (by show(Hd w n.1).2.1.length=32;omega)
theorem A8d (l:(List YI)×Unit) (hl:l.1.length≤1000):Tot (fun r=>r.2.1.length=32) (Akg l):=by
 unfold Akg Akf
 simp only[Aj,Al,Af,Aq]
 rw[Aij,Aik]
 simp only[An]
 have hloop:Tot (fun o:Int×(List YI)×Int×(List YI)×Unit=>o.2.2.2.1.length=32) (A1 Ra (l.1,(0:Int),(0:Int),([]:List YI),Aac.1,Aac.2.1,())):=by
  refine Wz (fun i d=>d.1=l.1∧d.2.1=(i:Int)∧d.2.2.2.2.2.1.length=32) _ l.1.length ?_ ⟨rfl,rfl,by simp[Aac]⟩
  rintro i ⟨m,k,a1,a2,a3,a4,⟨⟩⟩ hi ⟨g1,g2,g3⟩
  dsimp only at g1 g2 g3
  subst g1 g2
  unfold Ra
  simp only[Aj,Al,Af,Aq]
  refine Am (fun h=>?_) (fun h=>Ag (.inr ⟨_,rfl,g3⟩))
  have h:=of_decide_eq_true h
  refine Ae (Nr (P:=fun _=>True) zq0 h (fun _ _=>trivial)) (fun e _=>?_)
  refine Ae (A5r _ _ g3) (fun r hr=>Ag (.inl ⟨_,rfl,by omega,rfl,?_,hr⟩))
  show IntKind.i64.wrap ((i:Int)+1)=((i+1:Nat):Int)
  rw[w64 zq0];omega
 exact Ae hloop (fun o ho=>Ag ho)
theorem A5s {b:List YB} {a0:Au} (n:YI) (hc:Bu b a0) (hn:0≤n.1∧n.1≤20):Tot (fun r=>r.1.1.length≤1000∧Bu b r.2) (Af9 a0 n):=by
 unfold Af9 Af8
 simp only[Aj,Al,Af,Aq]
 refine Ae (A6 _ (0) (281474976710000) hc zq4 zq4) (fun r1 ⟨_,h1c⟩=>?_)
 have hw:IntKind.i64.wrap (n.1+1)=n.1+1:=w64 zq0
 refine Ae (Ba _ (Aa hc h1c) zq2) (fun r2 ⟨⟨h1,h2⟩,h2c⟩=>?_)
 dsimp only at h2
 have hloop: ∀q,Tot (fun o:(List YI)×(List YB)×Int×Int×Unit=>o.1.length≤999∧Bu b (o.2.1,o.2.2.1,o.2.2.2.1,())) (A1 Od (([]:List YI),q,r2.1.1,a0.1,r2.2.2.1,r2.2.2.2.1,())):=by
  intro q
  refine Wz (fun i d=>d.1.length=i∧d.2.2.1=r2.1.1-i∧Bu b (d.2.2.2.1,d.2.2.2.2.1,d.2.2.2.2.2.1,())) _ r2.1.1.toNat ?_ ⟨rfl,by dsimp only;omega,Aa hc h2c⟩
  rintro i ⟨l,q,k,c1,c2,c3,⟨⟩⟩ hi ⟨g1,g2,g3⟩
  dsimp only at g1 g2 g3
  unfold Od
  simp only[Aj,Al,Af,Aq]
  refine Am (fun h=>?_) (fun h=>Ag (.inr ⟨_,rfl,by dsimp only;omega,g3⟩))
  have h:=of_decide_eq_true h
  refine Ae (Ay _ g3 zq4) (fun r4 h4c=>?_)
  refine Am (fun _=>?_) (fun _=>?_)
  ·refine Ae (A6 _ (1) (3000) (Aa g3 h4c) zq4 zq4) (fun r5 ⟨_,h5c⟩=>?_)
   refine Ae (Ba _ (Aa g3 h5c) zq4) (fun r6 ⟨_,h6c⟩=>?_)
   refine Ae (A6 _ (0) (1000) (Aa g3 h6c) zq4 zq4) (fun r7 ⟨_,h7c⟩=>?_)
   refine D0 (Ap zq1) (Ag (.inl ⟨_,rfl,by omega,by simp;omega,?_,(by have:=Aa g3 h7c;exact this)⟩))
   dsimp only
   rw[w64 zq0];omega
  ·refine Ae (Ba _ (Aa g3 h4c) zq4) (fun r6 ⟨_,h6c⟩=>?_)
   refine Ae (A6 _ (0) (1000) (Aa g3 h6c) zq4 zq4) (fun r7 ⟨_,h7c⟩=>?_)
   refine D0 (Ap zq1) (Ag (.inl ⟨_,rfl,by omega,by simp;omega,?_,(by have:=Aa g3 h7c;exact this)⟩))
   dsimp only
   rw[w64 zq0];omega
 refine Ae (hloop _) (fun o ⟨ho,hoc⟩=>?_)
 refine Ae (Ay _ hoc zq4) (fun r11 h11c=>?_)
 refine Am (fun _=>?_) (fun _=>?_)
 ·refine Ae (A6 _ (-1) (281474976710656) (Aa hoc h11c) zq4 zq4) (fun r12 ⟨_,h12c⟩=>?_)
  exact D0 (Ap zq1) (Ag ⟨by simp;omega,Aa hoc h12c⟩)
 ·exact Ag ⟨by dsimp only;omega,Aa hoc h11c⟩
end
end Go.Proofs.YtmhhajdeafijmaaGreat

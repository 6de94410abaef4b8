/-
  That the program and the reference answer alike, in plain terms, and that the laws answer true.
-/
import Derived.Test.YtmhhajdeafijmaaGreatL41
namespace Go.Proofs.YtmhhajdeafijmaaGreat
open Go.RowKit
set_option linter.unusedVariables false
set_option linter.unusedSimpArgs false
set_option maxRecDepth 100000
set_option maxHeartbeats 8000000
noncomputable section
theorem A3i (w:B8) (n:YI) (h:w.2.1.length=32):Tot (fun r=>r.1.2.1.length=32) (Qz w n):=by
 have hn:=Abx w n.1
 simp only[Ed]at hn
 rw[Any w n zq0]
 cases Gl w n.1 with
 |false=>exact Ah h
 |true=>exact Ah (by show(Hd w n.1).2.1.length=32;omega)
theorem A5s (l:(List YI)×Unit) (hl:l.1.length≤1000):Tot (fun r=>r.2.1.length=32) (T6 l):=by
 unfold T6 Zj
 simp only[Ae,Ai,Ac,Ak]
 rw[Xp,Xq]
 simp only[Ag]
 have hloop:Tot (fun o:Int×(List YI)×Int×(List YI)×Unit=>o.2.2.2.1.length=32) (Ay Nu (l.1,(0:Int),(0:Int),([]:List YI),Ua.1,Ua.2.1,())):=by
  refine Nn (fun i d=>d.1=l.1∧d.2.1=(i:Int)∧d.2.2.2.2.2.1.length=32) _ l.1.length ?_ ⟨rfl,rfl,by simp[Ua]⟩
  rintro i ⟨m,k,a1,a2,a3,a4,⟨⟩⟩ hi ⟨g1,g2,g3⟩
  dsimp only at g1 g2 g3
  subst g1 g2
  unfold Nu
  simp only[Ae,Ai,Ac,Ak]
  refine Ao (fun h=>?_) (fun h=>Ah (.inr ⟨_,rfl,g3⟩))
  have h:=of_decide_eq_true h
  refine Ad (Pq (P:=fun _=>True) zq0 h (fun _ _=>trivial)) (fun e _=>?_)
  refine Ad (A3i _ _ g3) (fun r hr=>Ah (.inl ⟨_,rfl,by omega,rfl,?_,hr⟩))
  show IntKind.i64.wrap ((i:Int)+1)=((i+1:Nat):Int)
  rw[w64 zq0];omega
 exact Ad hloop (fun o ho=>Ah ho)
theorem Aqn {b:List YB} {a0:Az} (n:YI) (hc:B9 b a0) (hn:0≤n.1∧n.1≤20):Tot (fun r=>r.1.1.length≤1000∧B9 b r.2) (Afb a0 n):=by
 unfold Afb Ad0
 simp only[Ae,Ai,Ac,Ak]
 refine Ad (B7 _ (0) (281474976710000) hc zq4 zq4) (fun r1 ⟨_,h1c⟩=>?_)
 have hw:IntKind.i64.wrap (n.1+1)=n.1+1:=w64 zq0
 refine Ad (Bg _ (Ab hc h1c) zq2) (fun r2 ⟨⟨h1,h2⟩,h2c⟩=>?_)
 dsimp only at h2
 have hloop: ∀q,Tot (fun o:(List YI)×(List YB)×Int×Int×Unit=>o.1.length≤999∧B9 b (o.2.1,o.2.2.1,o.2.2.2.1,())) (Ay Qh (([]:List YI),q,r2.1.1,a0.1,r2.2.2.1,r2.2.2.2.1,())):=by
  intro q
  refine Nn (fun i d=>d.1.length=i∧d.2.2.1=r2.1.1-i∧B9 b (d.2.2.2.1,d.2.2.2.2.1,d.2.2.2.2.2.1,())) _ r2.1.1.toNat ?_ ⟨rfl,by dsimp only;omega,Ab hc h2c⟩
  rintro i ⟨l,q,k,c1,c2,c3,⟨⟩⟩ hi ⟨g1,g2,g3⟩
  dsimp only at g1 g2 g3
  unfold Qh
  simp only[Ae,Ai,Ac,Ak]
  refine Ao (fun h=>?_) (fun h=>Ah (.inr ⟨_,rfl,by dsimp only;omega,g3⟩))
  have h:=of_decide_eq_true h
  refine Ad (As _ g3 zq4) (fun r4 h4c=>?_)
  refine Ao (fun _=>?_) (fun _=>?_)
  ·refine Ad (B7 _ (1) (3000) (Ab g3 h4c) zq4 zq4) (fun r5 ⟨_,h5c⟩=>?_)
   refine Ad (Bg _ (Ab g3 h5c) zq4) (fun r6 ⟨_,h6c⟩=>?_)
   refine Ad (B7 _ (0) (1000) (Ab g3 h6c) zq4 zq4) (fun r7 ⟨_,h7c⟩=>?_)
   refine F9 (Am zq1) (Ah (.inl ⟨_,rfl,by omega,by simp;omega,?_,(by have:=Ab g3 h7c;exact this)⟩))
   dsimp only
   rw[w64 zq0];omega
  ·refine Ad (Bg _ (Ab g3 h4c) zq4) (fun r6 ⟨_,h6c⟩=>?_)
   refine Ad (B7 _ (0) (1000) (Ab g3 h6c) zq4 zq4) (fun r7 ⟨_,h7c⟩=>?_)
   refine F9 (Am zq1) (Ah (.inl ⟨_,rfl,by omega,by simp;omega,?_,(by have:=Ab g3 h7c;exact this)⟩))
   dsimp only
   rw[w64 zq0];omega
 refine Ad (hloop _) (fun o ⟨ho,hoc⟩=>?_)
 refine Ad (As _ hoc zq4) (fun r11 h11c=>?_)
 refine Ao (fun _=>?_) (fun _=>?_)
 ·refine Ad (B7 _ (-1) (281474976710656) (Ab hoc h11c) zq4 zq4) (fun r12 ⟨_,h12c⟩=>?_)
  exact F9 (Am zq1) (Ah ⟨by simp;omega,Ab hoc h12c⟩)
 ·exact Ah ⟨by dsimp only;omega,Ab hoc h11c⟩
end
end Go.Proofs.YtmhhajdeafijmaaGreat

/-
  That the program and the reference answer alike, in plain terms, and that the laws answer true.
-/
import Derived.Test.YtmhhajdeafijmaaGreatL41
namespace Go.Proofs.YtmhhajdeafijmaaGreat
open Go.RowKit
set_option linter.unusedVariables false
set_option linter.unusedSimpArgs false
set_option maxRecDepth 100000
set_option maxHeartbeats 8000000
noncomputable section
theorem A29 (w:Bv) (n:YI) (h:w.2.1.length=32):Tot (fun r=>r.1.2.1.length=32) (Ph w n):=by
 have hn:=Amk w n.1
 simp only[D7]at hn
 rw[Axt w n zq0]
 cases Gt w n.1 with
 |false=>exact Ae h
 |true=>exact Ae (by show(Hr w n.1).2.1.length=32;omega)
theorem A5u (l:(List YI)×Unit) (hl:l.1.length≤1000):Tot (fun r=>r.2.1.length=32) (Ah2 l):=by
 unfold Ah2 Ah1
 simp only[Af,Ah,Ac,An]
 rw[Afz,Af0]
 simp only[Ai]
 have hloop:Tot (fun o:Int×(List YI)×Int×(List YI)×Unit=>o.2.2.2.1.length=32) (Ay R7 (l.1,(0:Int),(0:Int),([]:List YI),W6.1,W6.2.1,())):=by
  refine U4 (fun i d=>d.1=l.1∧d.2.1=(i:Int)∧d.2.2.2.2.2.1.length=32) _ l.1.length ?_ ⟨rfl,rfl,by simp[W6]⟩
  rintro i ⟨m,k,a1,a2,a3,a4,⟨⟩⟩ hi ⟨g1,g2,g3⟩
  dsimp only at g1 g2 g3
  subst g1 g2
  unfold R7
  simp only[Af,Ah,Ac,An]
  refine Ak (fun h=>?_) (fun h=>Ae (.inr ⟨_,rfl,g3⟩))
  have h:=of_decide_eq_true h
  refine Ad (Mv (P:=fun _=>True) zq0 h (fun _ _=>trivial)) (fun e _=>?_)
  refine Ad (A29 _ _ g3) (fun r hr=>Ae (.inl ⟨_,rfl,by omega,rfl,?_,hr⟩))
  show IntKind.i64.wrap ((i:Int)+1)=((i+1:Nat):Int)
  rw[w64 zq0];omega
 exact Ad hloop (fun o ho=>Ae ho)
theorem A3a {b:List YB} {a0:Av} (n:YI) (hc:Bx b a0) (hn:0≤n.1∧n.1≤20):Tot (fun r=>r.1.1.length≤1000∧Bx b r.2) (Ac9 a0 n):=by
 unfold Ac9 Ac8
 simp only[Af,Ah,Ac,An]
 refine Ad (Bh _ (0) (281474976710000) hc zq3 zq3) (fun r1 ⟨_,h1c⟩=>?_)
 have hw:IntKind.i64.wrap (n.1+1)=n.1+1:=w64 zq0
 refine Ad (Bb _ (Aa hc h1c) zq2) (fun r2 ⟨⟨h1,h2⟩,h2c⟩=>?_)
 dsimp only at h2
 have hloop: ∀q,Tot (fun o:(List YI)×(List YB)×Int×Int×Unit=>o.1.length≤999∧Bx b (o.2.1,o.2.2.1,o.2.2.2.1,())) (Ay Pg (([]:List YI),q,r2.1.1,a0.1,r2.2.2.1,r2.2.2.2.1,())):=by
  intro q
  refine U4 (fun i d=>d.1.length=i∧d.2.2.1=r2.1.1-i∧Bx b (d.2.2.2.1,d.2.2.2.2.1,d.2.2.2.2.2.1,())) _ r2.1.1.toNat ?_ ⟨rfl,by dsimp only;omega,Aa hc h2c⟩
  rintro i ⟨l,q,k,c1,c2,c3,⟨⟩⟩ hi ⟨g1,g2,g3⟩
  dsimp only at g1 g2 g3
  unfold Pg
  simp only[Af,Ah,Ac,An]
  refine Ak (fun h=>?_) (fun h=>Ae (.inr ⟨_,rfl,by dsimp only;omega,g3⟩))
  have h:=of_decide_eq_true h
  refine Ad (Aw _ g3 zq3) (fun r4 h4c=>?_)
  refine Ak (fun _=>?_) (fun _=>?_)
  ·refine Ad (Bh _ (1) (3000) (Aa g3 h4c) zq3 zq3) (fun r5 ⟨_,h5c⟩=>?_)
   refine Ad (Bb _ (Aa g3 h5c) zq3) (fun r6 ⟨_,h6c⟩=>?_)
   refine Ad (Bh _ (0) (1000) (Aa g3 h6c) zq3 zq3) (fun r7 ⟨_,h7c⟩=>?_)
   refine Eg (Al zq1) (Ae (.inl ⟨_,rfl,by omega,by simp;omega,?_,(by have:=Aa g3 h7c;exact this)⟩))
   dsimp only
   rw[w64 zq0];omega
  ·refine Ad (Bb _ (Aa g3 h4c) zq3) (fun r6 ⟨_,h6c⟩=>?_)
   refine Ad (Bh _ (0) (1000) (Aa g3 h6c) zq3 zq3) (fun r7 ⟨_,h7c⟩=>?_)
   refine Eg (Al zq1) (Ae (.inl ⟨_,rfl,by omega,by simp;omega,?_,(by have:=Aa g3 h7c;exact this)⟩))
   dsimp only
   rw[w64 zq0];omega
 refine Ad (hloop _) (fun o ⟨ho,hoc⟩=>?_)
 refine Ad (Aw _ hoc zq3) (fun r11 h11c=>?_)
 refine Ak (fun _=>?_) (fun _=>?_)
 ·refine Ad (Bh _ (-1) (281474976710656) (Aa hoc h11c) zq3 zq3) (fun r12 ⟨_,h12c⟩=>?_)
  exact Eg (Al zq1) (Ae ⟨by simp;omega,Aa hoc h12c⟩)
 ·exact Ae ⟨by dsimp only;omega,Aa hoc h11c⟩
end
end Go.Proofs.YtmhhajdeafijmaaGreat

/-
  That the program and the reference answer alike, in plain terms, and that the laws answer true.
-/
import Derived.Test.YtfljmgnghlpapaaGreatL41
namespace Go.Proofs.YtfljmgnghlpapaaGreat
open Go.RowKit
set_option linter.unusedVariables false
set_option linter.unusedSimpArgs false
set_option maxRecDepth 100000
set_option maxHeartbeats 8000000
noncomputable section
theorem As8 (w:Bs) (n:YI) (h:w.2.1.length=32):Tot (fun r=>r.1.2.1.length=32) (P0 w n):=by
 have hn:=Aqo w n.1
 simp only[Dz]at hn
 rw[Awu w n zq0]
 cases Vt w n.1 with
 |false=>exact Ae h
 |true=>exact Ae (by show(Acw w n.1).2.1.length=32;omega)
theorem Ava (l:(List YI)×Unit) (hl:l.1.length≤1000):Tot (fun r=>r.2.1.length=32) (Acc l):=by
 unfold Acc Abg
 simp only[Ah,Ai,Ab,Am]
 rw[Aob,Aoc]
 simp only[Ak]
 have hloop:Tot (fun o:Int×(List YI)×Int×(List YI)×Unit=>o.2.2.2.1.length=32) (As Nt (l.1,(0:Int),(0:Int),([]:List YI),Acv.1,Acv.2.1,())):=by
  refine Mn (fun i d=>d.1=l.1∧d.2.1=(i:Int)∧d.2.2.2.2.2.1.length=32) _ l.1.length ?_ ⟨rfl,rfl,by simp[Acv]⟩
  rintro i ⟨m,k,a1,a2,a3,a4,⟨⟩⟩ hi ⟨g1,g2,g3⟩
  dsimp only at g1 g2 g3
  subst g1 g2
  unfold Nt
  simp only[Ah,Ai,Ab,Am]
  refine An (fun h=>?_) (fun h=>Ae (.inr ⟨_,rfl,g3⟩))
  have h:=of_decide_eq_true h
  refine Ag (Gc (P:=fun _=>True) zq0 h (fun _ _=>trivial)) (fun e _=>?_)
  refine Ag (As8 _ _ g3) (fun r hr=>Ae (.inl ⟨_,rfl,by omega,rfl,?_,hr⟩))
  show IntKind.i64.wrap ((i:Int)+1)=((i+1:Nat):Int)
  rw[w64 zq0];omega
 exact Ag hloop (fun o ho=>Ae ho)
theorem As9 {b:List YB} {a0:Ap} (n:YI) (hc:Bw b a0) (hn:0≤n.1∧n.1≤20):Tot (fun r=>r.1.1.length≤1000∧Bw b r.2) (Xq a0 n):=by
 unfold Xq Wq
 simp only[Ah,Ai,Ab,Am]
 refine Ag (Bh _ (0) (281474976710000) hc zq3 zq3) (fun r1 ⟨_,h1c⟩=>?_)
 have hw:IntKind.i64.wrap (n.1+1)=n.1+1:=w64 zq0
 refine Ag (Ba _ (Ad hc h1c) zq2) (fun r2 ⟨⟨h1,h2⟩,h2c⟩=>?_)
 dsimp only at h2
 have hloop: ∀q,Tot (fun o:(List YI)×(List YB)×Int×Int×Unit=>o.1.length≤999∧Bw b (o.2.1,o.2.2.1,o.2.2.2.1,())) (As Lq (([]:List YI),q,r2.1.1,a0.1,r2.2.2.1,r2.2.2.2.1,())):=by
  intro q
  refine Mn (fun i d=>d.1.length=i∧d.2.2.1=r2.1.1-i∧Bw b (d.2.2.2.1,d.2.2.2.2.1,d.2.2.2.2.2.1,())) _ r2.1.1.toNat ?_ ⟨rfl,by dsimp only;omega,Ad hc h2c⟩
  rintro i ⟨l,q,k,c1,c2,c3,⟨⟩⟩ hi ⟨g1,g2,g3⟩
  dsimp only at g1 g2 g3
  unfold Lq
  simp only[Ah,Ai,Ab,Am]
  refine An (fun h=>?_) (fun h=>Ae (.inr ⟨_,rfl,by dsimp only;omega,g3⟩))
  have h:=of_decide_eq_true h
  refine Ag (Bz _ g3 zq3) (fun r4 h4c=>?_)
  refine An (fun _=>?_) (fun _=>?_)
  ·refine Ag (Bh _ (1) (3000) (Ad g3 h4c) zq3 zq3) (fun r5 ⟨_,h5c⟩=>?_)
   refine Ag (Ba _ (Ad g3 h5c) zq3) (fun r6 ⟨_,h6c⟩=>?_)
   refine Ag (Bh _ (0) (1000) (Ad g3 h6c) zq3 zq3) (fun r7 ⟨_,h7c⟩=>?_)
   refine Dr (Ao zq1) (Ae (.inl ⟨_,rfl,by omega,by simp;omega,?_,(by have:=Ad g3 h7c;exact this)⟩))
   dsimp only
   rw[w64 zq0];omega
  ·refine Ag (Ba _ (Ad g3 h4c) zq3) (fun r6 ⟨_,h6c⟩=>?_)
   refine Ag (Bh _ (0) (1000) (Ad g3 h6c) zq3 zq3) (fun r7 ⟨_,h7c⟩=>?_)
   refine Dr (Ao zq1) (Ae (.inl ⟨_,rfl,by omega,by simp;omega,?_,(by have:=Ad g3 h7c;exact this)⟩))
   dsimp only
   rw[w64 zq0];omega
 refine Ag (hloop _) (fun o ⟨ho,hoc⟩=>?_)
 refine Ag (Bz _ hoc zq3) (fun r11 h11c=>?_)
 refine An (fun _=>?_) (fun _=>?_)
 ·refine Ag (Bh _ (-1) (281474976710656) (Ad hoc h11c) zq3 zq3) (fun r12 ⟨_,h12c⟩=>?_)
  exact Dr (Ao zq1) (Ae ⟨by simp;omega,Ad hoc h12c⟩)
 ·exact Ae ⟨by dsimp only;omega,Ad hoc h11c⟩
end
end Go.Proofs.YtfljmgnghlpapaaGreat

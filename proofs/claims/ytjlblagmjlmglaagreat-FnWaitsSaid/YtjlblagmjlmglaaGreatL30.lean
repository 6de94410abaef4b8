/-
  That the program and the reference answer alike, in plain terms, and that the laws answer true.
-/
import Derived.Test.YtjlblagmjlmglaaGreatL29
namespace Go.Proofs.YtjlblagmjlmglaaGreat
open Go.RowKit
set_option linter.unusedVariables false
set_option linter.unusedSimpArgs false
set_option maxRecDepth 100000
set_option maxHeartbeats 4000000
noncomputable section
theorem Al1 (e:YEp) (r:YI) (f:Aa) (h:Bm e≤4294967296) (h2:Ar f≤536870912):Fv e r f=Hy e r f:=by
 obtain⟨r,⟨⟩⟩:=r
 obtain⟨e',p,z,k1,k2,_⟩:=Aa8 e r f h h2
 rw[k1,k2]
theorem Eo {e:YEp} (h:E0 e=true):(0≤e.1∧e.1≤4294967295)∧e.2.1.length=32∧e.2.2.2.2.1.length=32:=by
 unfold E0 Ih at h
 simp only[Bool.and_eq_true,Bf]at h
 refine⟨h.1,by have:=h.2.1;simp at this;omega,by have:=h.2.2.2.2.1.2;simp at this;omega⟩
theorem Hj {c:Af} (h:Bw c=true):(c.1=0∨c.1=1)∧c.2.1.length=12∧E0 (Ho c)=true∧Kr c=true∧(c.2.2.2.2.2.2.2.2.2.2.2.2.2.2.1.length=0∨(c.1=0∧c.2.2.2.2.2.2.2.2.2.2.2.2.2.2.1.length=32∧c.2.2.1<4294967295)):=by
 unfold Bw at h
 simp only[Bool.not_not,Bool.and_eq_true,Bool.or_eq_true,beq_iff_eq,decide_eq_true_eq]at h
 refine⟨h.1,by omega,h.2.2.1,h.2.2.2.1,?_⟩
 rcases h.2.2.2.2 with q|q
 ·left;have:=q;simp only[Cy]at this;omega
 ·right;have:=q;simp only[Cy]at this;exact⟨this.1,by omega,this.2.2⟩
theorem Adg {c:Af} (h:Kr c=true) (hh:Pa c=true) (hN:0≤c.2.2.1∧c.2.2.1≤4294967295):E0 (L9 c)=true∧c.2.2.2.2.2.2.2.1=c.2.2.1-1∧((0≤Qp c∧Qp c≤1000005)∨(Qp c= -1∧c.1=1)):=by
 unfold Kr at h
 rw[hh]at h
 simp only[Bool.not_true,cond_false,Bool.not_not,Bool.and_eq_true,Bool.or_eq_true,Bool.not_eq_true',bne_eq_false_iff_eq,Bf,beq_iff_eq]at h
 refine⟨h.1,?_,h.2.2⟩
 have:=h.2.1
 have this:c.2.2.2.2.2.2.2.1=IntKind.i64.wrap (c.2.2.1-1):=this
 rw[w64 zq0]at this
 exact this
theorem A2a (c:Af) (n:YI) (f:Aa) (h:A0 c≤67000000) (h2:Ar f≤67108864) (w1:wfB f.2.2.2.1) (w2:wfB c.2.1):Lh c n f=Hb c n f:=by
 have hc:=h
 simp only[A0]at hc
 have hsn:f.2.2.2.1.length≤Ar f:=by simp only[Ar];omega
 obtain⟨d,d1,d2,d3⟩:=A3c f.2.2.2.1 c.2.1 zq0
 have d3:=d3 w1 w2
 unfold Lh Alm Hb Og
 simp only[Ai,Aj,Ad]
 rw[Ahz c zq0,Aa5 c zq0,Z0 c (by dsimp only[Ho];omega) (by dsimp only[L9];omega),Z1 c,B6,Bv,Z2,Nh,Nt,Ns,Ahn,d1]
 simp only[Al]
 cases ho:Bw c with
 |false=>rfl
 |true=>
 cases inR n.1 0 1000000 with
 |false=>rfl
 |true=>
 simp only[Bool.not_true,Aq]
 cases inR f.1 4 8 with
 |false=>cases B9 f<;>rfl
 |true=>
 cases B9 f with
 |false=>rfl
 |true=>
 simp only[Bool.not_true,Aq]
 obtain⟨f1,f2,f3,f4,f5⟩:=Hj ho
 obtain⟨f6,f7,f8⟩:=Eo f3
 have f6:0≤c.2.2.1∧c.2.2.1≤4294967295:=f6
 have hwN:IntKind.i64.wrap (c.2.2.1+(1:Int))=c.2.2.1+1:=w64 zq0
 have hE1:=Al1 (c.2.2.1,c.2.2.2.1,c.2.2.2.2.1,c.2.2.2.2.2.1,c.2.2.2.2.2.2.1,()) (IntKind.i64.wrap ((1:Int)-c.1),()) f (by simp only[Bm];omega) zq0
 have hE2:=Al1 (c.2.2.2.2.2.2.2.1,c.2.2.2.2.2.2.2.2.1,c.2.2.2.2.2.2.2.2.2.1,c.2.2.2.2.2.2.2.2.2.2.1,c.2.2.2.2.2.2.2.2.2.2.2.1,()) (IntKind.i64.wrap ((1:Int)-c.1),()) f (by simp only[Bm];omega) zq0
 obtain⟨en,n1,n2,n3⟩:=Ap7 (IntKind.i64.wrap (c.2.2.1+(1:Int)),()) (c.2.2.2.2.2.2.2.2.2.2.2.2.2.2.1,())
 have hE3:=Al1 en (IntKind.i64.wrap ((1:Int)-c.1),()) f zq0 zq0
 by_cases hs:f.2.2.2.1=c.2.1
 case neg=>
  have e1:(d != (0:Int))=true:=by simp;exact fun e=>hs (d3.1 e)
  have e2:Dv f.2.2.2.1 c.2.1=false:=by
   cases hh:Dv f.2.2.2.1 c.2.1 with
   |false=>rfl
   |true=>exact(hs (Azn w1 w2 hh)).elim
  rw[e1,e2]
  cases c.2.2.2.2.2.2.2.2.2.2.2.2.1<;>cases decide ((c.2.2.2.2.2.2.2.2.2.2.2.2.2.2.1.length:Int)>(0:Int))<;>rfl
 case pos=>
 have e1:(d != (0:Int))=false:=by simp;exact d3.2 hs
 have e2:Dv f.2.2.2.1 c.2.1=true:=by rw[hs];exact Ahq _
 rw[e1,e2]
 simp only[Bool.not_true,Aq]
 have main (r:YEp×YBs×YI):(L7 r c f c n).val=br (r.2.2.1 != (0:Int)) (some (c,(([]:List YB),()),r.2.2)) ((Gx f c c r n).val):=rfl
 have main2 (r:YEp×YBs×YI):(O9 r c f c n).val=br (r.2.2.1 != (0:Int)) (some (c,(([]:List YB),()),r.2.2)) ((Ko f c c r n).val):=rfl
 have hA:c.2.2.2.2.2.2.2.2.2.2.2.2.1=true→c.2.2.2.2.2.2.2.1=c.2.2.1-1:=fun hh=>(Adg f4 hh f6).2.1
 cases hold:c.2.2.2.2.2.2.2.2.2.2.2.2.1 with
 |true=>
  have hoN:=hA hold
  by_cases hb:f.2.2.2.2.2.2.2.1=c.2.2.1
  ·have q1:(f.2.2.2.2.2.2.2.1==c.2.2.1)=true:=by simpa using hb
   have q2:(f.2.2.2.2.2.2.2.1==c.2.2.2.2.2.2.2.1)=false:=by simp;omega
   have q3:(f.2.2.2.2.2.2.2.1==IntKind.i64.wrap (c.2.2.1+(1:Int)))=false:=by rw[hwN];simp;omega
   simp only[q1,Bool.not_true,Aq,Ax]
   rw[←hE1]
   cases hnx:decide ((c.2.2.2.2.2.2.2.2.2.2.2.2.2.2.1.length:Int)>(0:Int))with
   |true=>
    simp only[Ax]
    unfold F8
    simp only[Ai,q2,Aq]
    unfold F7
    simp only[Ai,q2,Aq]
    unfold O8
    simp only[Ai,q3,Aq]
    unfold Km
    simp only[Aj,main]
    unfold Gx
    simp only[Ai,q1,Ax]
    unfold Iz
    simp only[Ai,hold,Ax]
    unfold Ql
    simp only[Ai,Ad,hold]
   |false=>
    simp only[Aq]
    unfold Kn
    simp only[Ai,q2,Aq]
    unfold H1
    simp only[Ai,q2,Aq]
    unfold Km
    simp only[Aj,main]
    unfold Gx
    simp only[Ai,q1,Ax]
    unfold Iz
    simp only[Ai,hold,Ax]
    unfold Ql
    simp only[Ai,Ad,hold]
  ·have q1:(f.2.2.2.2.2.2.2.1==c.2.2.1)=false:=by simpa using hb
   simp only[q1,Bool.not_false,Aq,Ax]
   by_cases ho2:f.2.2.2.2.2.2.2.1=c.2.2.2.2.2.2.2.1
   ·have q2:(f.2.2.2.2.2.2.2.1==c.2.2.2.2.2.2.2.1)=true:=by simpa using ho2
    have q3:(f.2.2.2.2.2.2.2.1==IntKind.i64.wrap (c.2.2.1+(1:Int)))=false:=by rw[hwN];simp;omega
    simp only[q2,Bool.not_true,Aq,Ax]
    rw[←hE2]
    have fin:(L8 c f c n).val=ob (Fv (c.2.2.2.2.2.2.2.1,c.2.2.2.2.2.2.2.2.1,c.2.2.2.2.2.2.2.2.2.1,c.2.2.2.2.2.2.2.2.2.2.1,c.2.2.2.2.2.2.2.2.2.2.2.1,()) (IntKind.i64.wrap ((1:Int)-c.1),()) f) fun r=>br (r.2.2.1 != (0:Int)) (some (c,(([]:List YB),()),r.2.2)) (some ((c.1,c.2.1,c.2.2.1,c.2.2.2.1,c.2.2.2.2.1,c.2.2.2.2.2.1,c.2.2.2.2.2.2.1,r.1.1,r.1.2.1,r.1.2.2.1,r.1.2.2.2.1,r.1.2.2.2.2.1,true,c.2.2.2.2.2.2.2.2.2.2.2.2.2.1,c.2.2.2.2.2.2.2.2.2.2.2.2.2.2.1,()),r.2.1,((0:Int),()))):=by
     unfold L8
     simp only[Aj,main]
     unfold Gx
     simp only[Ai,q1,Aq]
     unfold Qm
     simp only[Ai,q2,Ax,Ad,hold]
    cases hnx:decide ((c.2.2.2.2.2.2.2.2.2.2.2.2.2.2.1.length:Int)>(0:Int))with
    |true=>
     simp only[Ax]
     unfold F8
     simp only[Ai,q2,Ax]
     unfold Aaz
     simp only[Ai]
     unfold Aay
     simp only[Ai,Ad]
     unfold F7
     simp only[Ai,q2,Ax]
     unfold Aep
     simp only[Ai,q3,Aq,fin]
    |false=>
     simp only[Aq]
     unfold Kn
     simp only[Ai,q2,Ax]
     unfold Aa1
     simp only[Ai]
     unfold Aa0
     simp only[Ai,Ad]
     unfold H1
     simp only[Ai,q2,Ax,fin]
   ·have q2:(f.2.2.2.2.2.2.2.1==c.2.2.2.2.2.2.2.1)=false:=by simpa using ho2
    simp only[q2,Bool.not_false,Aq,Ax]
    cases hnx:decide ((c.2.2.2.2.2.2.2.2.2.2.2.2.2.2.1.length:Int)>(0:Int))with
    |false=>rfl
    |true=>
     simp only[Ax]
     cases q3:(f.2.2.2.2.2.2.2.1==IntKind.i64.wrap (c.2.2.1+(1:Int)))with
     |false=>rfl
     |true=>
      simp only[Bool.not_true,Aq,Ax]
      rw[n2]
      simp only[Al]
      rw[←hE3]
      unfold F8
      simp only[Ai,q2,Aq]
      unfold F7
      simp only[Ai,q2,Aq]
      unfold O8
      simp only[Ai,q3,Ax]
      unfold Qn
      simp only[Aj]
      rw[n1]
      simp only[Al]
      unfold Aeo
      simp only[Aj,main]
      unfold Gx
      simp only[Ai,q1,Aq]
      unfold Qm
      simp only[Ai,q2,Aq,Ad]
 |false=>
  by_cases hb:f.2.2.2.2.2.2.2.1=c.2.2.1
  ·have q1:(f.2.2.2.2.2.2.2.1==c.2.2.1)=true:=by simpa using hb
   have q3:(f.2.2.2.2.2.2.2.1==IntKind.i64.wrap (c.2.2.1+(1:Int)))=false:=by rw[hwN];simp;omega
   simp only[q1,Bool.not_true,Aq,Ax]
   rw[←hE1]
   have fin:(Kp c f c n).val=ob (Fv (c.2.2.1,c.2.2.2.1,c.2.2.2.2.1,c.2.2.2.2.2.1,c.2.2.2.2.2.2.1,()) (IntKind.i64.wrap ((1:Int)-c.1),()) f) fun r=>br (r.2.2.1 != (0:Int)) (some (c,(([]:List YB),()),r.2.2)) (some ((c.1,c.2.1,r.1.1,r.1.2.1,r.1.2.2.1,r.1.2.2.2.1,r.1.2.2.2.2.1,c.2.2.2.2.2.2.2.1,c.2.2.2.2.2.2.2.2.1,c.2.2.2.2.2.2.2.2.2.1,c.2.2.2.2.2.2.2.2.2.2.1,c.2.2.2.2.2.2.2.2.2.2.2.1,false,c.2.2.2.2.2.2.2.2.2.2.2.2.2.1,c.2.2.2.2.2.2.2.2.2.2.2.2.2.2.1,()),r.2.1,((0:Int),()))):=by
    unfold Kp
    simp only[Aj,main2]
    unfold Ko
    simp only[Ai,q1,Ax]
    unfold Iz
    simp only[Ai,hold,Aq,Ad]
   cases hnx:decide ((c.2.2.2.2.2.2.2.2.2.2.2.2.2.2.1.length:Int)>(0:Int))with
   |true=>
    simp only[Ax]
    unfold Kq
    simp only[Ai,q3,Aq,fin]
   |false=>
    simp only[Aq,fin]
  ·have q1:(f.2.2.2.2.2.2.2.1==c.2.2.1)=false:=by simpa using hb
   simp only[q1,Bool.not_false,Aq,Ax]
   cases hnx:decide ((c.2.2.2.2.2.2.2.2.2.2.2.2.2.2.1.length:Int)>(0:Int))with
   |false=>rfl
   |true=>
    simp only[Ax]
    cases q3:(f.2.2.2.2.2.2.2.1==IntKind.i64.wrap (c.2.2.1+(1:Int)))with
    |false=>rfl
    |true=>
     simp only[Bool.not_true,Aq,Ax]
     rw[n2]
     simp only[Al]
     rw[←hE3]
     unfold Kq
     simp only[Ai,q3,Ax]
     unfold Aa3
     simp only[Aj]
     rw[n1]
     simp only[Al]
     unfold Aa2
     simp only[Aj,main2]
     unfold Ko
     simp only[Ai,q1,Aq,Ad]
end
end Go.Proofs.YtjlblagmjlmglaaGreat

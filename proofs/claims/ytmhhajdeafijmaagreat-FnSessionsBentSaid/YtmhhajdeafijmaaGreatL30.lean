/-
  That the program and the reference answer alike, in plain terms, and that the laws answer true.
-/
import Derived.Test.YtmhhajdeafijmaaGreatL29
namespace Go.Proofs.YtmhhajdeafijmaaGreat
open Go.RowKit
set_option linter.unusedVariables false
set_option linter.unusedSimpArgs false
set_option maxRecDepth 100000
set_option maxHeartbeats 4000000
noncomputable section
theorem Aj1 (e:YEp) (r:YI) (f:Au) (h:Bs e≤4294967296) (h2:Aq f≤536870912):F2 e r f=H8 e r f:=by
 obtain⟨r,⟨⟩⟩:=r
 obtain⟨e',p,z,k1,k2,_⟩:=X8 e r f h h2
 rw[k1,k2]
theorem D4 {e:YEp} (h:Es e=true):(0≤e.1∧e.1≤4294967295)∧e.2.1.length=32∧e.2.2.2.2.1.length=32:=by
 unfold Es I2 at h
 simp only[Bool.and_eq_true,C6]at h
 refine⟨h.1,by have:=h.2.1;simp at this;omega,by have:=h.2.2.2.2.1.2;simp at this;omega⟩
theorem Hs {c:Aj} (h:Ci c=true):(c.1=0∨c.1=1)∧c.2.1.length=12∧Es (I1 c)=true∧K5 c=true∧(c.2.2.2.2.2.2.2.2.2.2.2.2.2.2.1.length=0∨(c.1=0∧c.2.2.2.2.2.2.2.2.2.2.2.2.2.2.1.length=32∧c.2.2.1<4294967295)):=by
 unfold Ci at h
 simp only[Bool.not_not,Bool.and_eq_true,Bool.or_eq_true,beq_iff_eq,decide_eq_true_eq]at h
 refine⟨h.1,by omega,h.2.2.1,h.2.2.2.1,?_⟩
 rcases h.2.2.2.2 with q|q
 ·left;have:=q;simp only[Ki]at this;omega
 ·right;have:=q;simp only[Ki]at this;exact⟨this.1,by omega,this.2.2⟩
theorem Abe {c:Aj} (h:K5 c=true) (hh:Qm c=true) (hN:0≤c.2.2.1∧c.2.2.1≤4294967295):Es (Qk c)=true∧c.2.2.2.2.2.2.2.1=c.2.2.1-1∧((0≤Rm c∧Rm c≤1000005)∨(Rm c= -1∧c.1=1)):=by
 unfold K5 at h
 rw[hh]at h
 simp only[Bool.not_true,cond_false,Bool.not_not,Bool.and_eq_true,Bool.or_eq_true,Bool.not_eq_true',bne_eq_false_iff_eq,C6,beq_iff_eq]at h
 refine⟨h.1,?_,h.2.2⟩
 have:=h.2.1
 have this:c.2.2.2.2.2.2.2.1=IntKind.i64.wrap (c.2.2.1-1):=this
 rw[w64 zq0]at this
 exact this
theorem A0j (c:Aj) (n:YI) (f:Au) (h:Ax c≤67000000) (h2:Aq f≤67108864) (w1:wfB f.2.2.2.1) (w2:wfB c.2.1):Ld c n f=Hn c n f:=by
 have hc:=h
 simp only[Ax]at hc
 have hsn:f.2.2.2.1.length≤Aq f:=by simp only[Aq];omega
 obtain⟨d,d1,d2,d3⟩:=A1h f.2.2.2.1 c.2.1 zq0
 have d3:=d3 w1 w2
 unfold Ld V7 Hn Py
 simp only[Af,Ah,Ac]
 rw[Mu c zq0,Lz c zq0,Lr c zq5 zq6,Ls c,C9,C4,Afr,Ro,Ajr,Ta,Wz,d1]
 simp only[Ai]
 cases ho:Ci c with
 |false=>rfl
 |true=>
 cases inR n.1 0 1000000 with
 |false=>rfl
 |true=>
 simp only[Bool.not_true,Ap]
 cases inR f.1 4 8 with
 |false=>cases El f<;>rfl
 |true=>
 cases El f with
 |false=>rfl
 |true=>
 simp only[Bool.not_true,Ap]
 obtain⟨f1,f2,f3,f4,f5⟩:=Hs ho
 obtain⟨f6,f7,f8⟩:=D4 f3
 have f6:0≤c.2.2.1∧c.2.2.1≤4294967295:=f6
 have hwN:IntKind.i64.wrap (c.2.2.1+(1:Int))=c.2.2.1+1:=w64 zq0
 have hE1:=Aj1 (c.2.2.1,c.2.2.2.1,c.2.2.2.2.1,c.2.2.2.2.2.1,c.2.2.2.2.2.2.1,()) (IntKind.i64.wrap ((1:Int)-c.1),()) f (by simp only[Bs];omega) zq0
 have hE2:=Aj1 (c.2.2.2.2.2.2.2.1,c.2.2.2.2.2.2.2.2.1,c.2.2.2.2.2.2.2.2.2.1,c.2.2.2.2.2.2.2.2.2.2.1,c.2.2.2.2.2.2.2.2.2.2.2.1,()) (IntKind.i64.wrap ((1:Int)-c.1),()) f (by simp only[Bs];omega) zq0
 obtain⟨en,n1,n2,n3⟩:=An6 (IntKind.i64.wrap (c.2.2.1+(1:Int)),()) (c.2.2.2.2.2.2.2.2.2.2.2.2.2.2.1,())
 have hE3:=Aj1 en (IntKind.i64.wrap ((1:Int)-c.1),()) f zq0 zq0
 by_cases hs:f.2.2.2.1=c.2.1
 case neg=>
  have e1:(d != (0:Int))=true:=by simp;exact fun e=>hs (d3.1 e)
  have e2:E4 f.2.2.2.1 c.2.1=false:=by
   cases hh:E4 f.2.2.2.1 c.2.1 with
   |false=>rfl
   |true=>exact(hs (Axn w1 w2 hh)).elim
  rw[e1,e2]
  cases c.2.2.2.2.2.2.2.2.2.2.2.2.1<;>cases decide ((c.2.2.2.2.2.2.2.2.2.2.2.2.2.2.1.length:Int)>(0:Int))<;>rfl
 case pos=>
 have e1:(d != (0:Int))=false:=by simp;exact d3.2 hs
 have e2:E4 f.2.2.2.1 c.2.1=true:=by rw[hs];exact Afq _
 rw[e1,e2]
 simp only[Bool.not_true,Ap]
 have main (r:YEp×YBs×YI):(Ml r c f c n).val=br (r.2.2.1 != (0:Int)) (some (c,(([]:List YB),()),r.2.2)) ((Hg f c c r n).val):=rfl
 have main2 (r:YEp×YBs×YI):(Pv r c f c n).val=br (r.2.2.1 != (0:Int)) (some (c,(([]:List YB),()),r.2.2)) ((Kz f c c r n).val):=rfl
 have hA:c.2.2.2.2.2.2.2.2.2.2.2.2.1=true→c.2.2.2.2.2.2.2.1=c.2.2.1-1:=fun hh=>(Abe f4 hh f6).2.1
 cases hold:c.2.2.2.2.2.2.2.2.2.2.2.2.1 with
 |true=>
  have hoN:=hA hold
  by_cases hb:f.2.2.2.2.2.2.2.1=c.2.2.1
  ·have q1:(f.2.2.2.2.2.2.2.1==c.2.2.1)=true:=by simpa using hb
   have q2:(f.2.2.2.2.2.2.2.1==c.2.2.2.2.2.2.2.1)=false:=by simp;omega
   have q3:(f.2.2.2.2.2.2.2.1==IntKind.i64.wrap (c.2.2.1+(1:Int)))=false:=by rw[hwN];simp;omega
   simp only[q1,Bool.not_true,Ap,Az]
   rw[←hE1]
   cases hnx:decide ((c.2.2.2.2.2.2.2.2.2.2.2.2.2.2.1.length:Int)>(0:Int))with
   |true=>
    simp only[Az]
    unfold Gg
    simp only[Af,q2,Ap]
    unfold Gf
    simp only[Af,q2,Ap]
    unfold Pu
    simp only[Af,q3,Ap]
    unfold Kx
    simp only[Ah,main]
    unfold Hg
    simp only[Af,q1,Az]
    unfold Jd
    simp only[Af,hold,Az]
    unfold Rd
    simp only[Af,Ac,hold]
   |false=>
    simp only[Ap]
    unfold Ky
    simp only[Af,q2,Ap]
    unfold H6
    simp only[Af,q2,Ap]
    unfold Kx
    simp only[Ah,main]
    unfold Hg
    simp only[Af,q1,Az]
    unfold Jd
    simp only[Af,hold,Az]
    unfold Rd
    simp only[Af,Ac,hold]
  ·have q1:(f.2.2.2.2.2.2.2.1==c.2.2.1)=false:=by simpa using hb
   simp only[q1,Bool.not_false,Ap,Az]
   by_cases ho2:f.2.2.2.2.2.2.2.1=c.2.2.2.2.2.2.2.1
   ·have q2:(f.2.2.2.2.2.2.2.1==c.2.2.2.2.2.2.2.1)=true:=by simpa using ho2
    have q3:(f.2.2.2.2.2.2.2.1==IntKind.i64.wrap (c.2.2.1+(1:Int)))=false:=by rw[hwN];simp;omega
    simp only[q2,Bool.not_true,Ap,Az]
    rw[←hE2]
    have fin:(Mm c f c n).val=ob (F2 (c.2.2.2.2.2.2.2.1,c.2.2.2.2.2.2.2.2.1,c.2.2.2.2.2.2.2.2.2.1,c.2.2.2.2.2.2.2.2.2.2.1,c.2.2.2.2.2.2.2.2.2.2.2.1,()) (IntKind.i64.wrap ((1:Int)-c.1),()) f) fun r=>br (r.2.2.1 != (0:Int)) (some (c,(([]:List YB),()),r.2.2)) (some ((c.1,c.2.1,c.2.2.1,c.2.2.2.1,c.2.2.2.2.1,c.2.2.2.2.2.1,c.2.2.2.2.2.2.1,r.1.1,r.1.2.1,r.1.2.2.1,r.1.2.2.2.1,r.1.2.2.2.2.1,true,c.2.2.2.2.2.2.2.2.2.2.2.2.2.1,c.2.2.2.2.2.2.2.2.2.2.2.2.2.2.1,()),r.2.1,((0:Int),()))):=by
     unfold Mm
     simp only[Ah,main]
     unfold Hg
     simp only[Af,q1,Ap]
     unfold Re
     simp only[Af,q2,Az,Ac,hold]
    cases hnx:decide ((c.2.2.2.2.2.2.2.2.2.2.2.2.2.2.1.length:Int)>(0:Int))with
    |true=>
     simp only[Az]
     unfold Gg
     simp only[Af,q2,Az]
     unfold Xr
     simp only[Af]
     unfold Xq
     simp only[Af,Ac]
     unfold Gf
     simp only[Af,q2,Az]
     unfold Abt
     simp only[Af,q3,Ap,fin]
    |false=>
     simp only[Ap]
     unfold Ky
     simp only[Af,q2,Az]
     unfold Xt
     simp only[Af]
     unfold Xs
     simp only[Af,Ac]
     unfold H6
     simp only[Af,q2,Az,fin]
   ·have q2:(f.2.2.2.2.2.2.2.1==c.2.2.2.2.2.2.2.1)=false:=by simpa using ho2
    simp only[q2,Bool.not_false,Ap,Az]
    cases hnx:decide ((c.2.2.2.2.2.2.2.2.2.2.2.2.2.2.1.length:Int)>(0:Int))with
    |false=>rfl
    |true=>
     simp only[Az]
     cases q3:(f.2.2.2.2.2.2.2.1==IntKind.i64.wrap (c.2.2.1+(1:Int)))with
     |false=>rfl
     |true=>
      simp only[Bool.not_true,Ap,Az]
      rw[n2]
      simp only[Ai]
      rw[←hE3]
      unfold Gg
      simp only[Af,q2,Ap]
      unfold Gf
      simp only[Af,q2,Ap]
      unfold Pu
      simp only[Af,q3,Az]
      unfold Rf
      simp only[Ah]
      rw[n1]
      simp only[Ai]
      unfold Abs
      simp only[Ah,main]
      unfold Hg
      simp only[Af,q1,Ap]
      unfold Re
      simp only[Af,q2,Ap,Ac]
 |false=>
  by_cases hb:f.2.2.2.2.2.2.2.1=c.2.2.1
  ·have q1:(f.2.2.2.2.2.2.2.1==c.2.2.1)=true:=by simpa using hb
   have q3:(f.2.2.2.2.2.2.2.1==IntKind.i64.wrap (c.2.2.1+(1:Int)))=false:=by rw[hwN];simp;omega
   simp only[q1,Bool.not_true,Ap,Az]
   rw[←hE1]
   have fin:(K0 c f c n).val=ob (F2 (c.2.2.1,c.2.2.2.1,c.2.2.2.2.1,c.2.2.2.2.2.1,c.2.2.2.2.2.2.1,()) (IntKind.i64.wrap ((1:Int)-c.1),()) f) fun r=>br (r.2.2.1 != (0:Int)) (some (c,(([]:List YB),()),r.2.2)) (some ((c.1,c.2.1,r.1.1,r.1.2.1,r.1.2.2.1,r.1.2.2.2.1,r.1.2.2.2.2.1,c.2.2.2.2.2.2.2.1,c.2.2.2.2.2.2.2.2.1,c.2.2.2.2.2.2.2.2.2.1,c.2.2.2.2.2.2.2.2.2.2.1,c.2.2.2.2.2.2.2.2.2.2.2.1,false,c.2.2.2.2.2.2.2.2.2.2.2.2.2.1,c.2.2.2.2.2.2.2.2.2.2.2.2.2.2.1,()),r.2.1,((0:Int),()))):=by
    unfold K0
    simp only[Ah,main2]
    unfold Kz
    simp only[Af,q1,Az]
    unfold Jd
    simp only[Af,hold,Ap,Ac]
   cases hnx:decide ((c.2.2.2.2.2.2.2.2.2.2.2.2.2.2.1.length:Int)>(0:Int))with
   |true=>
    simp only[Az]
    unfold K3
    simp only[Af,q3,Ap,fin]
   |false=>
    simp only[Ap,fin]
  ·have q1:(f.2.2.2.2.2.2.2.1==c.2.2.1)=false:=by simpa using hb
   simp only[q1,Bool.not_false,Ap,Az]
   cases hnx:decide ((c.2.2.2.2.2.2.2.2.2.2.2.2.2.2.1.length:Int)>(0:Int))with
   |false=>rfl
   |true=>
    simp only[Az]
    cases q3:(f.2.2.2.2.2.2.2.1==IntKind.i64.wrap (c.2.2.1+(1:Int)))with
    |false=>rfl
    |true=>
     simp only[Bool.not_true,Ap,Az]
     rw[n2]
     simp only[Ai]
     rw[←hE3]
     unfold K3
     simp only[Af,q3,Az]
     unfold Xv
     simp only[Ah]
     rw[n1]
     simp only[Ai]
     unfold Xu
     simp only[Ah,main2]
     unfold Kz
     simp only[Af,q1,Ap,Ac]
end
end Go.Proofs.YtmhhajdeafijmaaGreat

/-
  That the program and the reference answer alike, in plain terms, and that the laws answer true.
-/
import Derived.Test.YtmhhajdeafijmaaGreatL29
namespace Go.Proofs.YtmhhajdeafijmaaGreat
open Go.RowKit
set_option linter.unusedVariables false
set_option linter.unusedSimpArgs false
set_option maxRecDepth 100000
set_option maxHeartbeats 4000000
noncomputable section
theorem Ab1 (e:YEp) (r:YI) (f:Aa) (h:Bj e≤4294967296) (h2:As f≤536870912):Fe e r f=F7 e r f:=by
 obtain⟨r,⟨⟩⟩:=r
 obtain⟨e',p,z,k1,k2,_⟩:=Ab0 e r f h h2
 rw[k1,k2]
theorem Ec {e:YEp} (h:Dm e=true):(0≤e.1∧e.1≤4294967295)∧e.2.1.length=32∧e.2.2.2.2.1.length=32:=by
 unfold Dm Fq at h
 simp only[Bool.and_eq_true,A6]at h
 refine⟨h.1,by have:=h.2.1;simp at this;omega,by have:=h.2.2.2.2.1.2;simp at this;omega⟩
theorem Ff {c:Af} (h:Bd c=true):(c.1=0∨c.1=1)∧c.2.1.length=12∧Dm (Gj c)=true∧Hu c=true∧(c.2.2.2.2.2.2.2.2.2.2.2.2.2.2.1.length=0∨(c.1=0∧c.2.2.2.2.2.2.2.2.2.2.2.2.2.2.1.length=32∧c.2.2.1<4294967295)):=by
 unfold Bd at h
 simp only[Bool.not_not,Bool.and_eq_true,Bool.or_eq_true,beq_iff_eq,decide_eq_true_eq]at h
 refine⟨h.1,by omega,h.2.2.1,h.2.2.2.1,?_⟩
 rcases h.2.2.2.2 with q|q
 ·left;have:=q;simp only[Bl]at this;omega
 ·right;have:=q;simp only[Bl]at this;exact⟨this.1,by omega,this.2.2⟩
theorem Ad5 {c:Af} (h:Hu c=true) (hh:Na c=true) (hN:0≤c.2.2.1∧c.2.2.1≤4294967295):Dm (Mc c)=true∧c.2.2.2.2.2.2.2.1=c.2.2.1-1∧((0≤Md c∧Md c≤1000005)∨(Md c= -1∧c.1=1)):=by
 unfold Hu at h
 rw[hh]at h
 simp only[Bool.not_true,cond_false,Bool.not_not,Bool.and_eq_true,Bool.or_eq_true,Bool.not_eq_true',bne_eq_false_iff_eq,A6,beq_iff_eq]at h
 refine⟨h.1,?_,h.2.2⟩
 have:=h.2.1
 have this:c.2.2.2.2.2.2.2.1=IntKind.i64.wrap (c.2.2.1-1):=this
 rw[w64 zq0]at this
 exact this
theorem Aov (c:Af) (n:YI) (f:Aa) (h:Ar c≤67000000) (h2:As f≤67108864) (w1:wfB f.2.2.2.1) (w2:wfB c.2.1):Jb c n f=Fc c n f:=by
 have hc:=h
 simp only[Ar]at hc
 have hsn:f.2.2.2.1.length≤As f:=by simp only[As];omega
 obtain⟨d,d1,d2,d3⟩:=A25 f.2.2.2.1 c.2.1 zq0
 have d3:=d3 w1 w2
 unfold Jb Als Fc K6
 simp only[Ag,Ai,Ad]
 rw[Me c zq0,Tb c zq0,Lm c zq7 zq8,Rb c,Br,Cb,Rd,Ln,Ic,Lo,Aao,d1]
 simp only[Aj]
 cases ho:Bd c with
 |false=>rfl
 |true=>
 cases inR n.1 0 1000000 with
 |false=>rfl
 |true=>
 simp only[Bool.not_true,An]
 cases inR f.1 4 8 with
 |false=>cases Bg f<;>rfl
 |true=>
 cases Bg f with
 |false=>rfl
 |true=>
 simp only[Bool.not_true,An]
 obtain⟨f1,f2,f3,f4,f5⟩:=Ff ho
 obtain⟨f6,f7,f8⟩:=Ec f3
 have f6:0≤c.2.2.1∧c.2.2.1≤4294967295:=f6
 have hwN:IntKind.i64.wrap (c.2.2.1+(1:Int))=c.2.2.1+1:=w64 zq0
 have hE1:=Ab1 (c.2.2.1,c.2.2.2.1,c.2.2.2.2.1,c.2.2.2.2.2.1,c.2.2.2.2.2.2.1,()) (IntKind.i64.wrap ((1:Int)-c.1),()) f (by simp only[Bj];omega) zq0
 have hE2:=Ab1 (c.2.2.2.2.2.2.2.1,c.2.2.2.2.2.2.2.2.1,c.2.2.2.2.2.2.2.2.2.1,c.2.2.2.2.2.2.2.2.2.2.1,c.2.2.2.2.2.2.2.2.2.2.2.1,()) (IntKind.i64.wrap ((1:Int)-c.1),()) f (by simp only[Bj];omega) zq0
 obtain⟨en,n1,n2,n3⟩:=Aqf (IntKind.i64.wrap (c.2.2.1+(1:Int)),()) (c.2.2.2.2.2.2.2.2.2.2.2.2.2.2.1,())
 have hE3:=Ab1 en (IntKind.i64.wrap ((1:Int)-c.1),()) f zq0 zq0
 by_cases hs:f.2.2.2.1=c.2.1
 case neg=>
  have e1:(d != (0:Int))=true:=by simp;exact fun e=>hs (d3.1 e)
  have e2:Dt f.2.2.2.1 c.2.1=false:=by
   cases hh:Dt f.2.2.2.1 c.2.1 with
   |false=>rfl
   |true=>exact(hs (Azg w1 w2 hh)).elim
  rw[e1,e2]
  cases c.2.2.2.2.2.2.2.2.2.2.2.2.1<;>cases decide ((c.2.2.2.2.2.2.2.2.2.2.2.2.2.2.1.length:Int)>(0:Int))<;>rfl
 case pos=>
 have e1:(d != (0:Int))=false:=by simp;exact d3.2 hs
 have e2:Dt f.2.2.2.1 c.2.1=true:=by rw[hs];exact Pu _
 rw[e1,e2]
 simp only[Bool.not_true,An]
 have main (r:YEp×YBs×YI):(L9 r c f c n).val=br (r.2.2.1 != (0:Int)) (some (c,(([]:List YB),()),r.2.2)) ((Hj f c c r n).val):=rfl
 have main2 (r:YEp×YBs×YI):(Pt r c f c n).val=br (r.2.2.1 != (0:Int)) (some (c,(([]:List YB),()),r.2.2)) ((Kt f c c r n).val):=rfl
 have hA:c.2.2.2.2.2.2.2.2.2.2.2.2.1=true→c.2.2.2.2.2.2.2.1=c.2.2.1-1:=fun hh=>(Ad5 f4 hh f6).2.1
 cases hold:c.2.2.2.2.2.2.2.2.2.2.2.2.1 with
 |true=>
  have hoN:=hA hold
  by_cases hb:f.2.2.2.2.2.2.2.1=c.2.2.1
  ·have q1:(f.2.2.2.2.2.2.2.1==c.2.2.1)=true:=by simpa using hb
   have q2:(f.2.2.2.2.2.2.2.1==c.2.2.2.2.2.2.2.1)=false:=by simp;omega
   have q3:(f.2.2.2.2.2.2.2.1==IntKind.i64.wrap (c.2.2.1+(1:Int)))=false:=by rw[hwN];simp;omega
   simp only[q1,Bool.not_true,An,Aw]
   rw[←hE1]
   cases hnx:decide ((c.2.2.2.2.2.2.2.2.2.2.2.2.2.2.1.length:Int)>(0:Int))with
   |true=>
    simp only[Aw]
    unfold Gi
    simp only[Ag,q2,An]
    unfold Gg
    simp only[Ag,q2,An]
    unfold Ps
    simp only[Ag,q3,An]
    unfold Kr
    simp only[Ai,main]
    unfold Hj
    simp only[Ag,q1,Aw]
    unfold Ja
    simp only[Ag,hold,Aw]
    unfold Q6
    simp only[Ag,Ad,hold]
   |false=>
    simp only[An]
    unfold Ks
    simp only[Ag,q2,An]
    unfold Ia
    simp only[Ag,q2,An]
    unfold Kr
    simp only[Ai,main]
    unfold Hj
    simp only[Ag,q1,Aw]
    unfold Ja
    simp only[Ag,hold,Aw]
    unfold Q6
    simp only[Ag,Ad,hold]
  ·have q1:(f.2.2.2.2.2.2.2.1==c.2.2.1)=false:=by simpa using hb
   simp only[q1,Bool.not_false,An,Aw]
   by_cases ho2:f.2.2.2.2.2.2.2.1=c.2.2.2.2.2.2.2.1
   ·have q2:(f.2.2.2.2.2.2.2.1==c.2.2.2.2.2.2.2.1)=true:=by simpa using ho2
    have q3:(f.2.2.2.2.2.2.2.1==IntKind.i64.wrap (c.2.2.1+(1:Int)))=false:=by rw[hwN];simp;omega
    simp only[q2,Bool.not_true,An,Aw]
    rw[←hE2]
    have fin:(Ma c f c n).val=ob (Fe (c.2.2.2.2.2.2.2.1,c.2.2.2.2.2.2.2.2.1,c.2.2.2.2.2.2.2.2.2.1,c.2.2.2.2.2.2.2.2.2.2.1,c.2.2.2.2.2.2.2.2.2.2.2.1,()) (IntKind.i64.wrap ((1:Int)-c.1),()) f) fun r=>br (r.2.2.1 != (0:Int)) (some (c,(([]:List YB),()),r.2.2)) (some ((c.1,c.2.1,c.2.2.1,c.2.2.2.1,c.2.2.2.2.1,c.2.2.2.2.2.1,c.2.2.2.2.2.2.1,r.1.1,r.1.2.1,r.1.2.2.1,r.1.2.2.2.1,r.1.2.2.2.2.1,true,c.2.2.2.2.2.2.2.2.2.2.2.2.2.1,c.2.2.2.2.2.2.2.2.2.2.2.2.2.2.1,()),r.2.1,((0:Int),()))):=by
     unfold Ma
     simp only[Ai,main]
     unfold Hj
     simp only[Ag,q1,An]
     unfold Q7
     simp only[Ag,q2,Aw,Ad,hold]
    cases hnx:decide ((c.2.2.2.2.2.2.2.2.2.2.2.2.2.2.1.length:Int)>(0:Int))with
    |true=>
     simp only[Aw]
     unfold Gi
     simp only[Ag,q2,Aw]
     unfold Abr
     simp only[Ag]
     unfold Abq
     simp only[Ag,Ad]
     unfold Gg
     simp only[Ag,q2,Aw]
     unfold Afc
     simp only[Ag,q3,An,fin]
    |false=>
     simp only[An]
     unfold Ks
     simp only[Ag,q2,Aw]
     unfold Abt
     simp only[Ag]
     unfold Abs
     simp only[Ag,Ad]
     unfold Ia
     simp only[Ag,q2,Aw,fin]
   ·have q2:(f.2.2.2.2.2.2.2.1==c.2.2.2.2.2.2.2.1)=false:=by simpa using ho2
    simp only[q2,Bool.not_false,An,Aw]
    cases hnx:decide ((c.2.2.2.2.2.2.2.2.2.2.2.2.2.2.1.length:Int)>(0:Int))with
    |false=>rfl
    |true=>
     simp only[Aw]
     cases q3:(f.2.2.2.2.2.2.2.1==IntKind.i64.wrap (c.2.2.1+(1:Int)))with
     |false=>rfl
     |true=>
      simp only[Bool.not_true,An,Aw]
      rw[n2]
      simp only[Aj]
      rw[←hE3]
      unfold Gi
      simp only[Ag,q2,An]
      unfold Gg
      simp only[Ag,q2,An]
      unfold Ps
      simp only[Ag,q3,Aw]
      unfold Q8
      simp only[Ai]
      rw[n1]
      simp only[Aj]
      unfold Afb
      simp only[Ai,main]
      unfold Hj
      simp only[Ag,q1,An]
      unfold Q7
      simp only[Ag,q2,An,Ad]
 |false=>
  by_cases hb:f.2.2.2.2.2.2.2.1=c.2.2.1
  ·have q1:(f.2.2.2.2.2.2.2.1==c.2.2.1)=true:=by simpa using hb
   have q3:(f.2.2.2.2.2.2.2.1==IntKind.i64.wrap (c.2.2.1+(1:Int)))=false:=by rw[hwN];simp;omega
   simp only[q1,Bool.not_true,An,Aw]
   rw[←hE1]
   have fin:(Ku c f c n).val=ob (Fe (c.2.2.1,c.2.2.2.1,c.2.2.2.2.1,c.2.2.2.2.2.1,c.2.2.2.2.2.2.1,()) (IntKind.i64.wrap ((1:Int)-c.1),()) f) fun r=>br (r.2.2.1 != (0:Int)) (some (c,(([]:List YB),()),r.2.2)) (some ((c.1,c.2.1,r.1.1,r.1.2.1,r.1.2.2.1,r.1.2.2.2.1,r.1.2.2.2.2.1,c.2.2.2.2.2.2.2.1,c.2.2.2.2.2.2.2.2.1,c.2.2.2.2.2.2.2.2.2.1,c.2.2.2.2.2.2.2.2.2.2.1,c.2.2.2.2.2.2.2.2.2.2.2.1,false,c.2.2.2.2.2.2.2.2.2.2.2.2.2.1,c.2.2.2.2.2.2.2.2.2.2.2.2.2.2.1,()),r.2.1,((0:Int),()))):=by
    unfold Ku
    simp only[Ai,main2]
    unfold Kt
    simp only[Ag,q1,Aw]
    unfold Ja
    simp only[Ag,hold,An,Ad]
   cases hnx:decide ((c.2.2.2.2.2.2.2.2.2.2.2.2.2.2.1.length:Int)>(0:Int))with
   |true=>
    simp only[Aw]
    unfold Kv
    simp only[Ag,q3,An,fin]
   |false=>
    simp only[An,fin]
  ·have q1:(f.2.2.2.2.2.2.2.1==c.2.2.1)=false:=by simpa using hb
   simp only[q1,Bool.not_false,An,Aw]
   cases hnx:decide ((c.2.2.2.2.2.2.2.2.2.2.2.2.2.2.1.length:Int)>(0:Int))with
   |false=>rfl
   |true=>
    simp only[Aw]
    cases q3:(f.2.2.2.2.2.2.2.1==IntKind.i64.wrap (c.2.2.1+(1:Int)))with
    |false=>rfl
    |true=>
     simp only[Bool.not_true,An,Aw]
     rw[n2]
     simp only[Aj]
     rw[←hE3]
     unfold Kv
     simp only[Ag,q3,Aw]
     unfold Abv
     simp only[Ai]
     rw[n1]
     simp only[Aj]
     unfold Abu
     simp only[Ai,main2]
     unfold Kt
     simp only[Ag,q1,An,Ad]
end
end Go.Proofs.YtmhhajdeafijmaaGreat

/-
  That the program and the reference answer alike, in plain terms, and that the laws answer true.
-/
import Derived.Test.YtmhhajdeafijmaaGreatL29
namespace Go.Proofs.YtmhhajdeafijmaaGreat
open Go.RowKit
set_option linter.unusedVariables false
set_option linter.unusedSimpArgs false
set_option maxRecDepth 100000
set_option maxHeartbeats 4000000
noncomputable section
theorem Amh (e:YEp) (r:YI) (f:Ab) (h:Bp e≤4294967296) (h2:Ar f≤536870912):Fr e r f=Hr e r f:=by
 obtain⟨r,⟨⟩⟩:=r
 obtain⟨e',p,z,k1,k2,_⟩:=Abi e r f h h2
 rw[k1,k2]
theorem Ek {e:YEp} (h:Es e=true):(0≤e.1∧e.1≤4294967295)∧e.2.1.length=32∧e.2.2.2.2.1.length=32:=by
 unfold Es Ic at h
 simp only[Bool.and_eq_true,Bt]at h
 refine⟨h.1,by have:=h.2.1;simp at this;omega,by have:=h.2.2.2.2.1.2;simp at this;omega⟩
theorem He {c:Ai} (h:B4 c=true):(c.1=0∨c.1=1)∧c.2.1.length=12∧Es (Hl c)=true∧Kl c=true∧(c.2.2.2.2.2.2.2.2.2.2.2.2.2.2.1.length=0∨(c.1=0∧c.2.2.2.2.2.2.2.2.2.2.2.2.2.2.1.length=32∧c.2.2.1<4294967295)):=by
 unfold B4 at h
 simp only[Bool.not_not,Bool.and_eq_true,Bool.or_eq_true,beq_iff_eq,decide_eq_true_eq]at h
 refine⟨h.1,by omega,h.2.2.1,h.2.2.2.1,?_⟩
 rcases h.2.2.2.2 with q|q
 ·left;have:=q;simp only[C6]at this;omega
 ·right;have:=q;simp only[C6]at this;exact⟨this.1,by omega,this.2.2⟩
theorem Adr {c:Ai} (h:Kl c=true) (hh:Pd c=true) (hN:0≤c.2.2.1∧c.2.2.1≤4294967295):Es (L3 c)=true∧c.2.2.2.2.2.2.2.1=c.2.2.1-1∧((0≤Qq c∧Qq c≤1000005)∨(Qq c= -1∧c.1=1)):=by
 unfold Kl at h
 rw[hh]at h
 simp only[Bool.not_true,cond_false,Bool.not_not,Bool.and_eq_true,Bool.or_eq_true,Bool.not_eq_true',bne_eq_false_iff_eq,Bt,beq_iff_eq]at h
 refine⟨h.1,?_,h.2.2⟩
 have:=h.2.1
 have this:c.2.2.2.2.2.2.2.1=IntKind.i64.wrap (c.2.2.1-1):=this
 rw[w64 zq0]at this
 exact this
theorem A2n (c:Ai) (n:YI) (f:Ab) (h:A0 c≤67000000) (h2:Ar f≤67108864) (w1:wfB f.2.2.2.1) (w2:wfB c.2.1):Ky c n f=Gy c n f:=by
 have hc:=h
 simp only[A0]at hc
 have hsn:f.2.2.2.1.length≤Ar f:=by simp only[Ar];omega
 obtain⟨d,d1,d2,d3⟩:=A3n f.2.2.2.1 c.2.1 zq0
 have d3:=d3 w1 w2
 unfold Ky Zj Gy Oc
 simp only[Aj,Al,Af]
 rw[Aih c zq0,Abe c zq0,Z4 c (by dsimp only[Hl];omega) (by dsimp only[L3];omega),Z5 c,Ch,Cz,Z6,Na,La,No,Ah5,d1]
 simp only[An]
 cases ho:B4 c with
 |false=>rfl
 |true=>
 cases inR n.1 0 1000000 with
 |false=>rfl
 |true=>
 simp only[Bool.not_true,Aw]
 cases inR f.1 4 8 with
 |false=>cases Cc f<;>rfl
 |true=>
 cases Cc f with
 |false=>rfl
 |true=>
 simp only[Bool.not_true,Aw]
 obtain⟨f1,f2,f3,f4,f5⟩:=He ho
 obtain⟨f6,f7,f8⟩:=Ek f3
 have f6:0≤c.2.2.1∧c.2.2.1≤4294967295:=f6
 have hwN:IntKind.i64.wrap (c.2.2.1+(1:Int))=c.2.2.1+1:=w64 zq0
 have hE1:=Amh (c.2.2.1,c.2.2.2.1,c.2.2.2.2.1,c.2.2.2.2.2.1,c.2.2.2.2.2.2.1,()) (IntKind.i64.wrap ((1:Int)-c.1),()) f (by simp only[Bp];omega) zq0
 have hE2:=Amh (c.2.2.2.2.2.2.2.1,c.2.2.2.2.2.2.2.2.1,c.2.2.2.2.2.2.2.2.2.1,c.2.2.2.2.2.2.2.2.2.2.1,c.2.2.2.2.2.2.2.2.2.2.2.1,()) (IntKind.i64.wrap ((1:Int)-c.1),()) f (by simp only[Bp];omega) zq0
 obtain⟨en,n1,n2,n3⟩:=Aqn (IntKind.i64.wrap (c.2.2.1+(1:Int)),()) (c.2.2.2.2.2.2.2.2.2.2.2.2.2.2.1,())
 have hE3:=Amh en (IntKind.i64.wrap ((1:Int)-c.1),()) f zq0 zq0
 by_cases hs:f.2.2.2.1=c.2.1
 case neg=>
  have e1:(d != (0:Int))=true:=by simp;exact fun e=>hs (d3.1 e)
  have e2:Dq f.2.2.2.1 c.2.1=false:=by
   cases hh:Dq f.2.2.2.1 c.2.1 with
   |false=>rfl
   |true=>exact(hs (Azu w1 w2 hh)).elim
  rw[e1,e2]
  cases c.2.2.2.2.2.2.2.2.2.2.2.2.1<;>cases decide ((c.2.2.2.2.2.2.2.2.2.2.2.2.2.2.1.length:Int)>(0:Int))<;>rfl
 case pos=>
 have e1:(d != (0:Int))=false:=by simp;exact d3.2 hs
 have e2:Dq f.2.2.2.1 c.2.1=true:=by rw[hs];exact Ah8 _
 rw[e1,e2]
 simp only[Bool.not_true,Aw]
 have main (r:YEp×YBs×YI):(Ls r c f c n).val=br (r.2.2.1 != (0:Int)) (some (c,(([]:List YB),()),r.2.2)) ((Gp f c c r n).val):=rfl
 have main2 (r:YEp×YBs×YI):(On r c f c n).val=br (r.2.2.1 != (0:Int)) (some (c,(([]:List YB),()),r.2.2)) ((Ki f c c r n).val):=rfl
 have hA:c.2.2.2.2.2.2.2.2.2.2.2.2.1=true→c.2.2.2.2.2.2.2.1=c.2.2.1-1:=fun hh=>(Adr f4 hh f6).2.1
 cases hold:c.2.2.2.2.2.2.2.2.2.2.2.2.1 with
 |true=>
  have hoN:=hA hold
  by_cases hb:f.2.2.2.2.2.2.2.1=c.2.2.1
  ·have q1:(f.2.2.2.2.2.2.2.1==c.2.2.1)=true:=by simpa using hb
   have q2:(f.2.2.2.2.2.2.2.1==c.2.2.2.2.2.2.2.1)=false:=by simp;omega
   have q3:(f.2.2.2.2.2.2.2.1==IntKind.i64.wrap (c.2.2.1+(1:Int)))=false:=by rw[hwN];simp;omega
   simp only[q1,Bool.not_true,Aw,Az]
   rw[←hE1]
   cases hnx:decide ((c.2.2.2.2.2.2.2.2.2.2.2.2.2.2.1.length:Int)>(0:Int))with
   |true=>
    simp only[Az]
    unfold F5
    simp only[Aj,q2,Aw]
    unfold F4
    simp only[Aj,q2,Aw]
    unfold Om
    simp only[Aj,q3,Aw]
    unfold Kg
    simp only[Al,main]
    unfold Gp
    simp only[Aj,q1,Az]
    unfold It
    simp only[Aj,hold,Az]
    unfold Qj
    simp only[Aj,Af,hold]
   |false=>
    simp only[Aw]
    unfold Kh
    simp only[Aj,q2,Aw]
    unfold Hu
    simp only[Aj,q2,Aw]
    unfold Kg
    simp only[Al,main]
    unfold Gp
    simp only[Aj,q1,Az]
    unfold It
    simp only[Aj,hold,Az]
    unfold Qj
    simp only[Aj,Af,hold]
  ·have q1:(f.2.2.2.2.2.2.2.1==c.2.2.1)=false:=by simpa using hb
   simp only[q1,Bool.not_false,Aw,Az]
   by_cases ho2:f.2.2.2.2.2.2.2.1=c.2.2.2.2.2.2.2.1
   ·have q2:(f.2.2.2.2.2.2.2.1==c.2.2.2.2.2.2.2.1)=true:=by simpa using ho2
    have q3:(f.2.2.2.2.2.2.2.1==IntKind.i64.wrap (c.2.2.1+(1:Int)))=false:=by rw[hwN];simp;omega
    simp only[q2,Bool.not_true,Aw,Az]
    rw[←hE2]
    have fin:(Lu c f c n).val=ob (Fr (c.2.2.2.2.2.2.2.1,c.2.2.2.2.2.2.2.2.1,c.2.2.2.2.2.2.2.2.2.1,c.2.2.2.2.2.2.2.2.2.2.1,c.2.2.2.2.2.2.2.2.2.2.2.1,()) (IntKind.i64.wrap ((1:Int)-c.1),()) f) fun r=>br (r.2.2.1 != (0:Int)) (some (c,(([]:List YB),()),r.2.2)) (some ((c.1,c.2.1,c.2.2.1,c.2.2.2.1,c.2.2.2.2.1,c.2.2.2.2.2.1,c.2.2.2.2.2.2.1,r.1.1,r.1.2.1,r.1.2.2.1,r.1.2.2.2.1,r.1.2.2.2.2.1,true,c.2.2.2.2.2.2.2.2.2.2.2.2.2.1,c.2.2.2.2.2.2.2.2.2.2.2.2.2.2.1,()),r.2.1,((0:Int),()))):=by
     unfold Lu
     simp only[Al,main]
     unfold Gp
     simp only[Aj,q1,Aw]
     unfold Qk
     simp only[Aj,q2,Az,Af,hold]
    cases hnx:decide ((c.2.2.2.2.2.2.2.2.2.2.2.2.2.2.1.length:Int)>(0:Int))with
    |true=>
     simp only[Az]
     unfold F5
     simp only[Aj,q2,Az]
     unfold Aax
     simp only[Aj]
     unfold Aaw
     simp only[Aj,Af]
     unfold F4
     simp only[Aj,q2,Az]
     unfold Ad5
     simp only[Aj,q3,Aw,fin]
    |false=>
     simp only[Aw]
     unfold Kh
     simp only[Aj,q2,Az]
     unfold Aaz
     simp only[Aj]
     unfold Aay
     simp only[Aj,Af]
     unfold Hu
     simp only[Aj,q2,Az,fin]
   ·have q2:(f.2.2.2.2.2.2.2.1==c.2.2.2.2.2.2.2.1)=false:=by simpa using ho2
    simp only[q2,Bool.not_false,Aw,Az]
    cases hnx:decide ((c.2.2.2.2.2.2.2.2.2.2.2.2.2.2.1.length:Int)>(0:Int))with
    |false=>rfl
    |true=>
     simp only[Az]
     cases q3:(f.2.2.2.2.2.2.2.1==IntKind.i64.wrap (c.2.2.1+(1:Int)))with
     |false=>rfl
     |true=>
      simp only[Bool.not_true,Aw,Az]
      rw[n2]
      simp only[An]
      rw[←hE3]
      unfold F5
      simp only[Aj,q2,Aw]
      unfold F4
      simp only[Aj,q2,Aw]
      unfold Om
      simp only[Aj,q3,Az]
      unfold Ql
      simp only[Al]
      rw[n1]
      simp only[An]
      unfold Ad4
      simp only[Al,main]
      unfold Gp
      simp only[Aj,q1,Aw]
      unfold Qk
      simp only[Aj,q2,Aw,Af]
 |false=>
  by_cases hb:f.2.2.2.2.2.2.2.1=c.2.2.1
  ·have q1:(f.2.2.2.2.2.2.2.1==c.2.2.1)=true:=by simpa using hb
   have q3:(f.2.2.2.2.2.2.2.1==IntKind.i64.wrap (c.2.2.1+(1:Int)))=false:=by rw[hwN];simp;omega
   simp only[q1,Bool.not_true,Aw,Az]
   rw[←hE1]
   have fin:(Kj c f c n).val=ob (Fr (c.2.2.1,c.2.2.2.1,c.2.2.2.2.1,c.2.2.2.2.2.1,c.2.2.2.2.2.2.1,()) (IntKind.i64.wrap ((1:Int)-c.1),()) f) fun r=>br (r.2.2.1 != (0:Int)) (some (c,(([]:List YB),()),r.2.2)) (some ((c.1,c.2.1,r.1.1,r.1.2.1,r.1.2.2.1,r.1.2.2.2.1,r.1.2.2.2.2.1,c.2.2.2.2.2.2.2.1,c.2.2.2.2.2.2.2.2.1,c.2.2.2.2.2.2.2.2.2.1,c.2.2.2.2.2.2.2.2.2.2.1,c.2.2.2.2.2.2.2.2.2.2.2.1,false,c.2.2.2.2.2.2.2.2.2.2.2.2.2.1,c.2.2.2.2.2.2.2.2.2.2.2.2.2.2.1,()),r.2.1,((0:Int),()))):=by
    unfold Kj
    simp only[Al,main2]
    unfold Ki
    simp only[Aj,q1,Az]
    unfold It
    simp only[Aj,hold,Aw,Af]
   cases hnx:decide ((c.2.2.2.2.2.2.2.2.2.2.2.2.2.2.1.length:Int)>(0:Int))with
   |true=>
    simp only[Az]
    unfold Kk
    simp only[Aj,q3,Aw,fin]
   |false=>
    simp only[Aw,fin]
  ·have q1:(f.2.2.2.2.2.2.2.1==c.2.2.1)=false:=by simpa using hb
   simp only[q1,Bool.not_false,Aw,Az]
   cases hnx:decide ((c.2.2.2.2.2.2.2.2.2.2.2.2.2.2.1.length:Int)>(0:Int))with
   |false=>rfl
   |true=>
    simp only[Az]
    cases q3:(f.2.2.2.2.2.2.2.1==IntKind.i64.wrap (c.2.2.1+(1:Int)))with
    |false=>rfl
    |true=>
     simp only[Bool.not_true,Aw,Az]
     rw[n2]
     simp only[An]
     rw[←hE3]
     unfold Kk
     simp only[Aj,q3,Az]
     unfold Aa1
     simp only[Al]
     rw[n1]
     simp only[An]
     unfold Aa0
     simp only[Al,main2]
     unfold Ki
     simp only[Aj,q1,Aw,Af]
end
end Go.Proofs.YtmhhajdeafijmaaGreat

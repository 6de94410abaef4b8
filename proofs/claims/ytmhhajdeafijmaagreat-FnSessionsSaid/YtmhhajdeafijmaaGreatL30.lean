/-
  That the program and the reference answer alike, in plain terms, and that the laws answer true.
-/
import Derived.Test.YtmhhajdeafijmaaGreatL29
namespace Go.Proofs.YtmhhajdeafijmaaGreat
open Go.RowKit
set_option linter.unusedVariables false
set_option linter.unusedSimpArgs false
set_option maxRecDepth 100000
set_option maxHeartbeats 4000000
noncomputable section
theorem Aig (e:YEp) (r:YI) (f:Au) (h:Bx e≤4294967296) (h2:Aq f≤536870912):F9 e r f=V_s_EpOpen e r f:=by
 obtain⟨r,⟨⟩⟩:=r
 obtain⟨e',p,z,k1,k2,_⟩:=Ze e r f h h2
 rw[k1,k2]
theorem Dh {e:YEp} (h:Dt e=true):(0≤e.1∧e.1≤4294967295)∧e.2.1.length=32∧e.2.2.2.2.1.length=32:=by
 unfold Dt Fw at h
 simp only[Bool.and_eq_true,Bl]at h
 refine⟨h.1,by have:=h.2.1;simp at this;omega,by have:=h.2.2.2.2.1.2;simp at this;omega⟩
theorem Eh {c:Al} (h:Bo c=true):(c.1=0∨c.1=1)∧c.2.1.length=12∧Dt (H3 c)=true∧H4 c=true∧(c.2.2.2.2.2.2.2.2.2.2.2.2.2.2.1.length=0∨(c.1=0∧c.2.2.2.2.2.2.2.2.2.2.2.2.2.2.1.length=32∧c.2.2.1<4294967295)):=by
 unfold Bo at h
 simp only[Bool.not_not,Bool.and_eq_true,Bool.or_eq_true,beq_iff_eq,decide_eq_true_eq]at h
 refine⟨h.1,by omega,h.2.2.1,h.2.2.2.1,?_⟩
 rcases h.2.2.2.2 with q|q
 ·left;have:=q;simp only[Ir]at this;omega
 ·right;have:=q;simp only[Ir]at this;exact⟨this.1,by omega,this.2.2⟩
theorem Aa9 {c:Al} (h:H4 c=true) (hh:Qt c=true) (hN:0≤c.2.2.1∧c.2.2.1≤4294967295):Dt (Ob c)=true∧c.2.2.2.2.2.2.2.1=c.2.2.1-1∧((0≤Ru c∧Ru c≤1000005)∨(Ru c= -1∧c.1=1)):=by
 unfold H4 at h
 rw[hh]at h
 simp only[Bool.not_true,cond_false,Bool.not_not,Bool.and_eq_true,Bool.or_eq_true,Bool.not_eq_true',bne_eq_false_iff_eq,Bl,beq_iff_eq]at h
 refine⟨h.1,?_,h.2.2⟩
 have:=h.2.1
 have this:c.2.2.2.2.2.2.2.1=IntKind.i64.wrap (c.2.2.1-1):=this
 rw[w64 zq0]at this
 exact this
theorem Ax6 (c:Al) (n:YI) (f:Au) (h:Av c≤67000000) (h2:Aq f≤67108864) (w1:wfB f.2.2.2.1) (w2:wfB c.2.1):Jk c n f=V_s_ChanOpen c n f:=by
 have hc:=h
 simp only[Av]at hc
 have hsn:f.2.2.2.1.length≤Aq f:=by simp only[Aq];omega
 obtain⟨d,d1,d2,d3⟩:=Azb f.2.2.2.1 c.2.1 zq0
 have d3:=d3 w1 w2
 unfold Jk Wc V_s_ChanOpen T_s_ChanOpen
 simp only[Ae,Ai,Ac]
 rw[Ki c zq0,Md c zq0,Ma c zq6 zq7,Mb c,Ch,Cw,Aev,Rw,Ti,Mc,Wv,d1]
 simp only[Ag]
 cases ho:Bo c with
 |false=>rfl
 |true=>
 cases inR n.1 0 1000000 with
 |false=>rfl
 |true=>
 simp only[Bool.not_true,Am]
 cases inR f.1 4 8 with
 |false=>cases Co f<;>rfl
 |true=>
 cases Co f with
 |false=>rfl
 |true=>
 simp only[Bool.not_true,Am]
 obtain⟨f1,f2,f3,f4,f5⟩:=Eh ho
 obtain⟨f6,f7,f8⟩:=Dh f3
 have f6:0≤c.2.2.1∧c.2.2.1≤4294967295:=f6
 have hwN:IntKind.i64.wrap (c.2.2.1+(1:Int))=c.2.2.1+1:=w64 zq0
 have hE1:=Aig (c.2.2.1,c.2.2.2.1,c.2.2.2.2.1,c.2.2.2.2.2.1,c.2.2.2.2.2.2.1,()) (IntKind.i64.wrap ((1:Int)-c.1),()) f (by simp only[Bx];omega) zq0
 have hE2:=Aig (c.2.2.2.2.2.2.2.1,c.2.2.2.2.2.2.2.2.1,c.2.2.2.2.2.2.2.2.2.1,c.2.2.2.2.2.2.2.2.2.2.1,c.2.2.2.2.2.2.2.2.2.2.2.1,()) (IntKind.i64.wrap ((1:Int)-c.1),()) f (by simp only[Bx];omega) zq0
 obtain⟨en,n1,n2,n3⟩:=Al6 (IntKind.i64.wrap (c.2.2.1+(1:Int)),()) (c.2.2.2.2.2.2.2.2.2.2.2.2.2.2.1,())
 have hE3:=Aig en (IntKind.i64.wrap ((1:Int)-c.1),()) f zq0 zq0
 by_cases hs:f.2.2.2.1=c.2.1
 case neg=>
  have e1:(d != (0:Int))=true:=by simp;exact fun e=>hs (d3.1 e)
  have e2:Ew f.2.2.2.1 c.2.1=false:=by
   cases hh:Ew f.2.2.2.1 c.2.1 with
   |false=>rfl
   |true=>exact(hs (Avd w1 w2 hh)).elim
  rw[e1,e2]
  cases c.2.2.2.2.2.2.2.2.2.2.2.2.1<;>cases decide ((c.2.2.2.2.2.2.2.2.2.2.2.2.2.2.1.length:Int)>(0:Int))<;>rfl
 case pos=>
 have e1:(d != (0:Int))=false:=by simp;exact d3.2 hs
 have e2:Ew f.2.2.2.1 c.2.1=true:=by rw[hs];exact Qw _
 rw[e1,e2]
 simp only[Bool.not_true,Am]
 have main (r:YEp×YBs×YI):(Mu r c f c n).val=br (r.2.2.1 != (0:Int)) (some (c,(([]:List YB),()),r.2.2)) ((Hr f c c r n).val):=rfl
 have main2 (r:YEp×YBs×YI):(Qa r c f c n).val=br (r.2.2.1 != (0:Int)) (some (c,(([]:List YB),()),r.2.2)) ((Lj f c c r n).val):=rfl
 have hA:c.2.2.2.2.2.2.2.2.2.2.2.2.1=true→c.2.2.2.2.2.2.2.1=c.2.2.1-1:=fun hh=>(Aa9 f4 hh f6).2.1
 cases hold:c.2.2.2.2.2.2.2.2.2.2.2.2.1 with
 |true=>
  have hoN:=hA hold
  by_cases hb:f.2.2.2.2.2.2.2.1=c.2.2.1
  ·have q1:(f.2.2.2.2.2.2.2.1==c.2.2.1)=true:=by simpa using hb
   have q2:(f.2.2.2.2.2.2.2.1==c.2.2.2.2.2.2.2.1)=false:=by simp;omega
   have q3:(f.2.2.2.2.2.2.2.1==IntKind.i64.wrap (c.2.2.1+(1:Int)))=false:=by rw[hwN];simp;omega
   simp only[q1,Bool.not_true,Am,A0]
   rw[←hE1]
   cases hnx:decide ((c.2.2.2.2.2.2.2.2.2.2.2.2.2.2.1.length:Int)>(0:Int))with
   |true=>
    simp only[A0]
    unfold Gs
    simp only[Ae,q2,Am]
    unfold Gr
    simp only[Ae,q2,Am]
    unfold P3
    simp only[Ae,q3,Am]
    unfold Lh
    simp only[Ai,main]
    unfold Hr
    simp only[Ae,q1,A0]
    unfold Jj
    simp only[Ae,hold,A0]
    unfold Rm
    simp only[Ae,Ac,hold]
   |false=>
    simp only[Am]
    unfold Li
    simp only[Ae,q2,Am]
    unfold Ik
    simp only[Ae,q2,Am]
    unfold Lh
    simp only[Ai,main]
    unfold Hr
    simp only[Ae,q1,A0]
    unfold Jj
    simp only[Ae,hold,A0]
    unfold Rm
    simp only[Ae,Ac,hold]
  ·have q1:(f.2.2.2.2.2.2.2.1==c.2.2.1)=false:=by simpa using hb
   simp only[q1,Bool.not_false,Am,A0]
   by_cases ho2:f.2.2.2.2.2.2.2.1=c.2.2.2.2.2.2.2.1
   ·have q2:(f.2.2.2.2.2.2.2.1==c.2.2.2.2.2.2.2.1)=true:=by simpa using ho2
    have q3:(f.2.2.2.2.2.2.2.1==IntKind.i64.wrap (c.2.2.1+(1:Int)))=false:=by rw[hwN];simp;omega
    simp only[q2,Bool.not_true,Am,A0]
    rw[←hE2]
    have fin:(Mv c f c n).val=ob (F9 (c.2.2.2.2.2.2.2.1,c.2.2.2.2.2.2.2.2.1,c.2.2.2.2.2.2.2.2.2.1,c.2.2.2.2.2.2.2.2.2.2.1,c.2.2.2.2.2.2.2.2.2.2.2.1,()) (IntKind.i64.wrap ((1:Int)-c.1),()) f) fun r=>br (r.2.2.1 != (0:Int)) (some (c,(([]:List YB),()),r.2.2)) (some ((c.1,c.2.1,c.2.2.1,c.2.2.2.1,c.2.2.2.2.1,c.2.2.2.2.2.1,c.2.2.2.2.2.2.1,r.1.1,r.1.2.1,r.1.2.2.1,r.1.2.2.2.1,r.1.2.2.2.2.1,true,c.2.2.2.2.2.2.2.2.2.2.2.2.2.1,c.2.2.2.2.2.2.2.2.2.2.2.2.2.2.1,()),r.2.1,((0:Int),()))):=by
     unfold Mv
     simp only[Ai,main]
     unfold Hr
     simp only[Ae,q1,Am]
     unfold Rn
     simp only[Ae,q2,A0,Ac,hold]
    cases hnx:decide ((c.2.2.2.2.2.2.2.2.2.2.2.2.2.2.1.length:Int)>(0:Int))with
    |true=>
     simp only[A0]
     unfold Gs
     simp only[Ae,q2,A0]
     unfold Xn
     simp only[Ae]
     unfold Xm
     simp only[Ae,Ac]
     unfold Gr
     simp only[Ae,q2,A0]
     unfold Abl
     simp only[Ae,q3,Am,fin]
    |false=>
     simp only[Am]
     unfold Li
     simp only[Ae,q2,A0]
     unfold Xp
     simp only[Ae]
     unfold Xo
     simp only[Ae,Ac]
     unfold Ik
     simp only[Ae,q2,A0,fin]
   ·have q2:(f.2.2.2.2.2.2.2.1==c.2.2.2.2.2.2.2.1)=false:=by simpa using ho2
    simp only[q2,Bool.not_false,Am,A0]
    cases hnx:decide ((c.2.2.2.2.2.2.2.2.2.2.2.2.2.2.1.length:Int)>(0:Int))with
    |false=>rfl
    |true=>
     simp only[A0]
     cases q3:(f.2.2.2.2.2.2.2.1==IntKind.i64.wrap (c.2.2.1+(1:Int)))with
     |false=>rfl
     |true=>
      simp only[Bool.not_true,Am,A0]
      rw[n2]
      simp only[Ag]
      rw[←hE3]
      unfold Gs
      simp only[Ae,q2,Am]
      unfold Gr
      simp only[Ae,q2,Am]
      unfold P3
      simp only[Ae,q3,A0]
      unfold Ro
      simp only[Ai]
      rw[n1]
      simp only[Ag]
      unfold Abk
      simp only[Ai,main]
      unfold Hr
      simp only[Ae,q1,Am]
      unfold Rn
      simp only[Ae,q2,Am,Ac]
 |false=>
  by_cases hb:f.2.2.2.2.2.2.2.1=c.2.2.1
  ·have q1:(f.2.2.2.2.2.2.2.1==c.2.2.1)=true:=by simpa using hb
   have q3:(f.2.2.2.2.2.2.2.1==IntKind.i64.wrap (c.2.2.1+(1:Int)))=false:=by rw[hwN];simp;omega
   simp only[q1,Bool.not_true,Am,A0]
   rw[←hE1]
   have fin:(Lk c f c n).val=ob (F9 (c.2.2.1,c.2.2.2.1,c.2.2.2.2.1,c.2.2.2.2.2.1,c.2.2.2.2.2.2.1,()) (IntKind.i64.wrap ((1:Int)-c.1),()) f) fun r=>br (r.2.2.1 != (0:Int)) (some (c,(([]:List YB),()),r.2.2)) (some ((c.1,c.2.1,r.1.1,r.1.2.1,r.1.2.2.1,r.1.2.2.2.1,r.1.2.2.2.2.1,c.2.2.2.2.2.2.2.1,c.2.2.2.2.2.2.2.2.1,c.2.2.2.2.2.2.2.2.2.1,c.2.2.2.2.2.2.2.2.2.2.1,c.2.2.2.2.2.2.2.2.2.2.2.1,false,c.2.2.2.2.2.2.2.2.2.2.2.2.2.1,c.2.2.2.2.2.2.2.2.2.2.2.2.2.2.1,()),r.2.1,((0:Int),()))):=by
    unfold Lk
    simp only[Ai,main2]
    unfold Lj
    simp only[Ae,q1,A0]
    unfold Jj
    simp only[Ae,hold,Am,Ac]
   cases hnx:decide ((c.2.2.2.2.2.2.2.2.2.2.2.2.2.2.1.length:Int)>(0:Int))with
   |true=>
    simp only[A0]
    unfold Ll
    simp only[Ae,q3,Am,fin]
   |false=>
    simp only[Am,fin]
  ·have q1:(f.2.2.2.2.2.2.2.1==c.2.2.1)=false:=by simpa using hb
   simp only[q1,Bool.not_false,Am,A0]
   cases hnx:decide ((c.2.2.2.2.2.2.2.2.2.2.2.2.2.2.1.length:Int)>(0:Int))with
   |false=>rfl
   |true=>
    simp only[A0]
    cases q3:(f.2.2.2.2.2.2.2.1==IntKind.i64.wrap (c.2.2.1+(1:Int)))with
    |false=>rfl
    |true=>
     simp only[Bool.not_true,Am,A0]
     rw[n2]
     simp only[Ag]
     rw[←hE3]
     unfold Ll
     simp only[Ae,q3,A0]
     unfold Xr
     simp only[Ai]
     rw[n1]
     simp only[Ag]
     unfold Xq
     simp only[Ai,main2]
     unfold Lj
     simp only[Ae,q1,Am,Ac]
end
end Go.Proofs.YtmhhajdeafijmaaGreat

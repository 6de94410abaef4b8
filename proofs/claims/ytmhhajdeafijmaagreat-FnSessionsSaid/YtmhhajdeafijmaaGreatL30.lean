/-
  That the program and the reference answer alike, in plain terms, and that the laws answer true.
-/
import Derived.Test.YtmhhajdeafijmaaGreatL29
namespace Go.Proofs.YtmhhajdeafijmaaGreat
open Go.RowKit
set_option linter.unusedVariables false
set_option linter.unusedSimpArgs false
set_option maxRecDepth 100000
set_option maxHeartbeats 4000000
noncomputable section
theorem Ajr (e:YEp) (r:YI) (f:Aq) (h:B5 e≤4294967296) (h2:Ar f≤536870912):Gb e r f=Iz e r f:=by
 obtain⟨r,⟨⟩⟩:=r
 obtain⟨e',p,z,k1,k2,_⟩:=Z2 e r f h h2
 rw[k1,k2]
theorem Dl {e:YEp} (h:Dy e=true):(0≤e.1∧e.1≤4294967295)∧e.2.1.length=32∧e.2.2.2.2.1.length=32:=by
 unfold Dy Fz at h
 simp only[Bool.and_eq_true,Bp]at h
 refine⟨h.1,by have:=h.2.1;simp at this;omega,by have:=h.2.2.2.2.1.2;simp at this;omega⟩
theorem El {c:Aj} (h:Bt c=true):(c.1=0∨c.1=1)∧c.2.1.length=12∧Dy (Ia c)=true∧Ib c=true∧(c.2.2.2.2.2.2.2.2.2.2.2.2.2.2.1.length=0∨(c.1=0∧c.2.2.2.2.2.2.2.2.2.2.2.2.2.2.1.length=32∧c.2.2.1<4294967295)):=by
 unfold Bt at h
 simp only[Bool.not_not,Bool.and_eq_true,Bool.or_eq_true,beq_iff_eq,decide_eq_true_eq]at h
 refine⟨h.1,by omega,h.2.2.1,h.2.2.2.1,?_⟩
 rcases h.2.2.2.2 with q|q
 ·left;have:=q;simp only[I0]at this;omega
 ·right;have:=q;simp only[I0]at this;exact⟨this.1,by omega,this.2.2⟩
theorem Abz {c:Aj} (h:Ib c=true) (hh:Re c=true) (hN:0≤c.2.2.1∧c.2.2.1≤4294967295):Dy (Ov c)=true∧c.2.2.2.2.2.2.2.1=c.2.2.1-1∧((0≤Sr c∧Sr c≤1000005)∨(Sr c= -1∧c.1=1)):=by
 unfold Ib at h
 rw[hh]at h
 simp only[Bool.not_true,cond_false,Bool.not_not,Bool.and_eq_true,Bool.or_eq_true,Bool.not_eq_true',bne_eq_false_iff_eq,Bp,beq_iff_eq]at h
 refine⟨h.1,?_,h.2.2⟩
 have:=h.2.1
 have this:c.2.2.2.2.2.2.2.1=IntKind.i64.wrap (c.2.2.1-1):=this
 rw[w64 zq0]at this
 exact this
theorem A0a (c:Aj) (n:YI) (f:Aq) (h:Av c≤67000000) (h2:Ar f≤67108864) (w1:wfB f.2.2.2.1) (w2:wfB c.2.1):J1 c n f=H5 c n f:=by
 have hc:=h
 simp only[Av]at hc
 have hsn:f.2.2.2.1.length≤Ar f:=by simp only[Ar];omega
 obtain⟨d,d1,d2,d3⟩:=A1g f.2.2.2.1 c.2.1 zq0
 have d3:=d3 w1 w2
 unfold J1 Wy H5 Xh
 simp only[Ae,Ai,Ac]
 rw[Kt c zq0,Ms c zq0,Mp c zq6 zq7,Mq c,Cj,Cz,Afv,Su,T7,Mr,Xi,d1]
 simp only[Ag]
 cases ho:Bt c with
 |false=>rfl
 |true=>
 cases inR n.1 0 1000000 with
 |false=>rfl
 |true=>
 simp only[Bool.not_true,An]
 cases inR f.1 4 8 with
 |false=>cases Cq f<;>rfl
 |true=>
 cases Cq f with
 |false=>rfl
 |true=>
 simp only[Bool.not_true,An]
 obtain⟨f1,f2,f3,f4,f5⟩:=El ho
 obtain⟨f6,f7,f8⟩:=Dl f3
 have f6:0≤c.2.2.1∧c.2.2.1≤4294967295:=f6
 have hwN:IntKind.i64.wrap (c.2.2.1+(1:Int))=c.2.2.1+1:=w64 zq0
 have hE1:=Ajr (c.2.2.1,c.2.2.2.1,c.2.2.2.2.1,c.2.2.2.2.2.1,c.2.2.2.2.2.2.1,()) (IntKind.i64.wrap ((1:Int)-c.1),()) f (by simp only[B5];omega) zq0
 have hE2:=Ajr (c.2.2.2.2.2.2.2.1,c.2.2.2.2.2.2.2.2.1,c.2.2.2.2.2.2.2.2.2.1,c.2.2.2.2.2.2.2.2.2.2.1,c.2.2.2.2.2.2.2.2.2.2.2.1,()) (IntKind.i64.wrap ((1:Int)-c.1),()) f (by simp only[B5];omega) zq0
 obtain⟨en,n1,n2,n3⟩:=Anw (IntKind.i64.wrap (c.2.2.1+(1:Int)),()) (c.2.2.2.2.2.2.2.2.2.2.2.2.2.2.1,())
 have hE3:=Ajr en (IntKind.i64.wrap ((1:Int)-c.1),()) f zq0 zq0
 by_cases hs:f.2.2.2.1=c.2.1
 case neg=>
  have e1:(d != (0:Int))=true:=by simp;exact fun e=>hs (d3.1 e)
  have e2:Ez f.2.2.2.1 c.2.1=false:=by
   cases hh:Ez f.2.2.2.1 c.2.1 with
   |false=>rfl
   |true=>exact(hs (Axh w1 w2 hh)).elim
  rw[e1,e2]
  cases c.2.2.2.2.2.2.2.2.2.2.2.2.1<;>cases decide ((c.2.2.2.2.2.2.2.2.2.2.2.2.2.2.1.length:Int)>(0:Int))<;>rfl
 case pos=>
 have e1:(d != (0:Int))=false:=by simp;exact d3.2 hs
 have e2:Ez f.2.2.2.1 c.2.1=true:=by rw[hs];exact Rh _
 rw[e1,e2]
 simp only[Bool.not_true,An]
 have main (r:YEp×YBs×YI):(Nf r c f c n).val=br (r.2.2.1 != (0:Int)) (some (c,(([]:List YB),()),r.2.2)) ((Hx f c c r n).val):=rfl
 have main2 (r:YEp×YBs×YI):(Q7 r c f c n).val=br (r.2.2.1 != (0:Int)) (some (c,(([]:List YB),()),r.2.2)) ((Lz f c c r n).val):=rfl
 have hA:c.2.2.2.2.2.2.2.2.2.2.2.2.1=true→c.2.2.2.2.2.2.2.1=c.2.2.1-1:=fun hh=>(Abz f4 hh f6).2.1
 cases hold:c.2.2.2.2.2.2.2.2.2.2.2.2.1 with
 |true=>
  have hoN:=hA hold
  by_cases hb:f.2.2.2.2.2.2.2.1=c.2.2.1
  ·have q1:(f.2.2.2.2.2.2.2.1==c.2.2.1)=true:=by simpa using hb
   have q2:(f.2.2.2.2.2.2.2.1==c.2.2.2.2.2.2.2.1)=false:=by simp;omega
   have q3:(f.2.2.2.2.2.2.2.1==IntKind.i64.wrap (c.2.2.1+(1:Int)))=false:=by rw[hwN];simp;omega
   simp only[q1,Bool.not_true,An,A0]
   rw[←hE1]
   cases hnx:decide ((c.2.2.2.2.2.2.2.2.2.2.2.2.2.2.1.length:Int)>(0:Int))with
   |true=>
    simp only[A0]
    unfold Gw
    simp only[Ae,q2,An]
    unfold Gv
    simp only[Ae,q2,An]
    unfold Q6
    simp only[Ae,q3,An]
    unfold Lx
    simp only[Ai,main]
    unfold Hx
    simp only[Ae,q1,A0]
    unfold J0
    simp only[Ae,hold,A0]
    unfold Sj
    simp only[Ae,Ac,hold]
   |false=>
    simp only[An]
    unfold Ly
    simp only[Ae,q2,An]
    unfold Iy
    simp only[Ae,q2,An]
    unfold Lx
    simp only[Ai,main]
    unfold Hx
    simp only[Ae,q1,A0]
    unfold J0
    simp only[Ae,hold,A0]
    unfold Sj
    simp only[Ae,Ac,hold]
  ·have q1:(f.2.2.2.2.2.2.2.1==c.2.2.1)=false:=by simpa using hb
   simp only[q1,Bool.not_false,An,A0]
   by_cases ho2:f.2.2.2.2.2.2.2.1=c.2.2.2.2.2.2.2.1
   ·have q2:(f.2.2.2.2.2.2.2.1==c.2.2.2.2.2.2.2.1)=true:=by simpa using ho2
    have q3:(f.2.2.2.2.2.2.2.1==IntKind.i64.wrap (c.2.2.1+(1:Int)))=false:=by rw[hwN];simp;omega
    simp only[q2,Bool.not_true,An,A0]
    rw[←hE2]
    have fin:(Ng c f c n).val=ob (Gb (c.2.2.2.2.2.2.2.1,c.2.2.2.2.2.2.2.2.1,c.2.2.2.2.2.2.2.2.2.1,c.2.2.2.2.2.2.2.2.2.2.1,c.2.2.2.2.2.2.2.2.2.2.2.1,()) (IntKind.i64.wrap ((1:Int)-c.1),()) f) fun r=>br (r.2.2.1 != (0:Int)) (some (c,(([]:List YB),()),r.2.2)) (some ((c.1,c.2.1,c.2.2.1,c.2.2.2.1,c.2.2.2.2.1,c.2.2.2.2.2.1,c.2.2.2.2.2.2.1,r.1.1,r.1.2.1,r.1.2.2.1,r.1.2.2.2.1,r.1.2.2.2.2.1,true,c.2.2.2.2.2.2.2.2.2.2.2.2.2.1,c.2.2.2.2.2.2.2.2.2.2.2.2.2.2.1,()),r.2.1,((0:Int),()))):=by
     unfold Ng
     simp only[Ai,main]
     unfold Hx
     simp only[Ae,q1,An]
     unfold Sl
     simp only[Ae,q2,A0,Ac,hold]
    cases hnx:decide ((c.2.2.2.2.2.2.2.2.2.2.2.2.2.2.1.length:Int)>(0:Int))with
    |true=>
     simp only[A0]
     unfold Gw
     simp only[Ae,q2,A0]
     unfold Zt
     simp only[Ae]
     unfold Zs
     simp only[Ae,Ac]
     unfold Gv
     simp only[Ae,q2,A0]
     unfold Acu
     simp only[Ae,q3,An,fin]
    |false=>
     simp only[An]
     unfold Ly
     simp only[Ae,q2,A0]
     unfold Zv
     simp only[Ae]
     unfold Zu
     simp only[Ae,Ac]
     unfold Iy
     simp only[Ae,q2,A0,fin]
   ·have q2:(f.2.2.2.2.2.2.2.1==c.2.2.2.2.2.2.2.1)=false:=by simpa using ho2
    simp only[q2,Bool.not_false,An,A0]
    cases hnx:decide ((c.2.2.2.2.2.2.2.2.2.2.2.2.2.2.1.length:Int)>(0:Int))with
    |false=>rfl
    |true=>
     simp only[A0]
     cases q3:(f.2.2.2.2.2.2.2.1==IntKind.i64.wrap (c.2.2.1+(1:Int)))with
     |false=>rfl
     |true=>
      simp only[Bool.not_true,An,A0]
      rw[n2]
      simp only[Ag]
      rw[←hE3]
      unfold Gw
      simp only[Ae,q2,An]
      unfold Gv
      simp only[Ae,q2,An]
      unfold Q6
      simp only[Ae,q3,A0]
      unfold Sm
      simp only[Ai]
      rw[n1]
      simp only[Ag]
      unfold Acs
      simp only[Ai,main]
      unfold Hx
      simp only[Ae,q1,An]
      unfold Sl
      simp only[Ae,q2,An,Ac]
 |false=>
  by_cases hb:f.2.2.2.2.2.2.2.1=c.2.2.1
  ·have q1:(f.2.2.2.2.2.2.2.1==c.2.2.1)=true:=by simpa using hb
   have q3:(f.2.2.2.2.2.2.2.1==IntKind.i64.wrap (c.2.2.1+(1:Int)))=false:=by rw[hwN];simp;omega
   simp only[q1,Bool.not_true,An,A0]
   rw[←hE1]
   have fin:(L0 c f c n).val=ob (Gb (c.2.2.1,c.2.2.2.1,c.2.2.2.2.1,c.2.2.2.2.2.1,c.2.2.2.2.2.2.1,()) (IntKind.i64.wrap ((1:Int)-c.1),()) f) fun r=>br (r.2.2.1 != (0:Int)) (some (c,(([]:List YB),()),r.2.2)) (some ((c.1,c.2.1,r.1.1,r.1.2.1,r.1.2.2.1,r.1.2.2.2.1,r.1.2.2.2.2.1,c.2.2.2.2.2.2.2.1,c.2.2.2.2.2.2.2.2.1,c.2.2.2.2.2.2.2.2.2.1,c.2.2.2.2.2.2.2.2.2.2.1,c.2.2.2.2.2.2.2.2.2.2.2.1,false,c.2.2.2.2.2.2.2.2.2.2.2.2.2.1,c.2.2.2.2.2.2.2.2.2.2.2.2.2.2.1,()),r.2.1,((0:Int),()))):=by
    unfold L0
    simp only[Ai,main2]
    unfold Lz
    simp only[Ae,q1,A0]
    unfold J0
    simp only[Ae,hold,An,Ac]
   cases hnx:decide ((c.2.2.2.2.2.2.2.2.2.2.2.2.2.2.1.length:Int)>(0:Int))with
   |true=>
    simp only[A0]
    unfold L3
    simp only[Ae,q3,An,fin]
   |false=>
    simp only[An,fin]
  ·have q1:(f.2.2.2.2.2.2.2.1==c.2.2.1)=false:=by simpa using hb
   simp only[q1,Bool.not_false,An,A0]
   cases hnx:decide ((c.2.2.2.2.2.2.2.2.2.2.2.2.2.2.1.length:Int)>(0:Int))with
   |false=>rfl
   |true=>
    simp only[A0]
    cases q3:(f.2.2.2.2.2.2.2.1==IntKind.i64.wrap (c.2.2.1+(1:Int)))with
    |false=>rfl
    |true=>
     simp only[Bool.not_true,An,A0]
     rw[n2]
     simp only[Ag]
     rw[←hE3]
     unfold L3
     simp only[Ae,q3,A0]
     unfold Zx
     simp only[Ai]
     rw[n1]
     simp only[Ag]
     unfold Zw
     simp only[Ai,main2]
     unfold Lz
     simp only[Ae,q1,An,Ac]
end
end Go.Proofs.YtmhhajdeafijmaaGreat

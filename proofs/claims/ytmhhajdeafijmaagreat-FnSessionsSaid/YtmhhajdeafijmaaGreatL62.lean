/-
  That the program and the reference answer alike, in plain terms, and that the laws answer true.
-/
import Derived.Test.YtmhhajdeafijmaaGreatL61
namespace Go.Proofs.YtmhhajdeafijmaaGreat
open Go.RowKit
set_option linter.unusedVariables false
set_option linter.unusedSimpArgs false
set_option maxRecDepth 100000
set_option maxHeartbeats 8000000
noncomputable section
theorem Ac9 {s r:Bd} {X:Aj} {P p':A9} {n:YI} {a:Bu} {d:YBs} {os os2:List Bl} {ns ns2:List A8} {b k c1 c2:Bool} {y:Aj} {g:Aq} {zz:Int} (hs:Fq s=true) (hd:Lc s=false) (hX:Bt X=true) (h1:X.1=1) (h2:X.2.1=(Ck s).2.1) (hP:Ct P=true) (hn:0≤n.1∧n.1≤1000000) (ha:Du a=true) (hdl:d.1.length=12)
  (hb:Au P≤4294967296) (hc:Av X≤60000000) (hos:Mu os) (hns:Lq ns) (hne:ns≠[]) (hAt:(P.1=(A5 s).1∧P.2.1=(A5 s).2.1)∨(P.1=a.1∧P.2.1=a.2.1)) (hcd:P.2.2.1=[]∨(A5 s).2.2.1.length>0)
  (o:Cd P n a d=some (p',(b,()))) (e:Bq X ((5:Int),()) d=some (y,g,(zz,())))
  (h:br (!b) (some (Gn s X P n.1,(os,()),(ns,()),(false,()))) (br (zz != (0:Int)) (some (Gn s X P n.1,(os,()),(ns,()),(false,()))) (chk c1 (chk c2 (some (Gn s y p' n.1,(os++[(a.1,a.2.1,g.1,g.2.1,g.2.2.1,g.2.2.2.1,g.2.2.2.2.1,g.2.2.2.2.2.1,g.2.2.2.2.2.2.1,g.2.2.2.2.2.2.2.1,g.2.2.2.2.2.2.2.2.1,g.2.2.2.2.2.2.2.2.2.1,g.2.2.2.2.2.2.2.2.2.2.1,())],()),(ns++[Fi y g],()),(true,()))))))=some (r,(os2,()),(ns2,()),(k,()))):Aku s r n.1 a d.1 os2 ns2 k:=by
 obtain⟨T1,T2,T3⟩:=A7m hs hd hX h1 h2 hP hn ha hdl hb hc hos hns hne hAt hcd o e (m:=Fi y g)
 rcases Ee h with⟨q,h⟩|⟨q,h⟩
 ·have q:b=false:=by simpa using q
  simp only[Option.some.injEq,Prod.mk.injEq,and_true]at h
  obtain⟨rfl,rfl,rfl,rfl⟩:=h
  exact T1 q
 have q:b=true:=by simpa using q
 rcases Ee h with⟨q2,h⟩|⟨q2,h⟩
 ·simp only[Option.some.injEq,Prod.mk.injEq,and_true]at h
  obtain⟨rfl,rfl,rfl,rfl⟩:=h
  exact T2 (by simpa using q2)
 ·have h:=Er (Er h)
  simp only[Option.some.injEq,Prod.mk.injEq,and_true]at h
  obtain⟨rfl,rfl,rfl,rfl⟩:=h
  exact T3 q (by simpa using q2)
theorem A5y {s1 r:Bd} {X0:Aj} {P:A9} {s:Bd} {n:Int} {ep:YI} {p:YBs} {os:List Bl} {ns:List A8} (he:s1=Gn s X0 P n) (hs:Fq s=true) (hd:Lc s=false) (hX:Bt X0=true) (h1:X0.1=1) (h2:X0.2.1=(Ck s).2.1) (hP:Ct P=true) (hc:Av X0≤50000000)
  (h:Oq s1 ep p=some (r,(os,()),(ns,()))): ∃X,r=Gn s X P n∧Bt X=true∧X.1=1∧X.2.1=(Ck s).2.1∧Av X≤Av X0+200∧Mu os∧Lq ns:=by
 subst he
 obtain⟨q1,q2,q3,q4,q5,q6,q7,q8,q9⟩:=Vu hs hd
 obtain⟨X,zr,r1,_,R1,R2,R3⟩:=Ajx X0 ep p zq0
 have nil:Mu []∧Lq []:=⟨fun _ h=>(by cases h),fun _ h=>(by cases h)⟩
 have hck:=D3 X
 unfold Oq On at h
 simp only[Ae,Ai,Ac,Ak]at h
 rw[show Lb (Ck (Gn s X0 P n)) ep p=some (X,(zr,()))from r1]at h
 simp only[Ag]at h
 rcases Ee h with⟨c0,h⟩|⟨c0,h⟩
 ·simp only[Option.some.injEq,Prod.mk.injEq,and_true]at h
  obtain⟨hq,rfl,rfl⟩:=h
  exact⟨X0,hq.symm,hX,h1,h2,by omega,nil⟩
 have hz:zr=0:=by simpa using c0
 obtain⟨_,_,R4,R5,R6⟩:=R3 hz
 have hR5:X.1=1:=by rw[R5,h1]
 have hR6:X.2.1=(Ck s).2.1:=by rw[R6,h2]
 have hcf:=El R4
 have hcfe:=Dl hcf.2.2.1
 have hN:0≤X.2.2.1∧X.2.2.1≤4294967295:=hcfe.1
 have hK:X.2.2.2.1.length=32:=hcfe.2.1
 obtain⟨y,g,za,k1,_,K1,K2,K3⟩:=A5f X zq0
 have hyk:=D3 y
 have turn:J2 ((10:Int),(0:Int),(1:Int),([]:List YB),s.2.2.1,X.2.2.1,(0:Int),([]:List YB),X.2.2.2.1,(0:Int),(0:Int),(0:Int),())=true:=by
  rw[Rm]
  simp only[List.length_nil]
  exact⟨by omega,by omega,by omega,hN,by omega,by omega,.inl trivial,.inr q3,by omega,.inr hK,Avu⟩
 have ackd:za=0→Bt y=true∧y.1=1∧y.2.1=(Ck s).2.1∧Cq g=true:=fun hza=>by
  obtain⟨e',E1,_,_,_,E5⟩:=K3 hza
  obtain⟨_,c2,c3,c4,c5,c6⟩:=E5 rfl
  exact⟨c2,by rw[E1];exact hR5,by rw[E1];exact hR6,by rw[c5];exact Ac6 c6⟩
 have hAt:Du ((A5 (Gn s X0 P n)).1,(A5 (Gn s X0 P n)).2.1,())=true:=by
  obtain⟨x1,x2,x3,⟨⟩⟩:=P
  exact(Gf.1 hP).1
 have sent:za=0→Mu [((A5 (Gn s X0 P n)).1,(A5 (Gn s X0 P n)).2.1,g.1,g.2.1,g.2.2.1,g.2.2.2.1,g.2.2.2.2.1,g.2.2.2.2.2.1,g.2.2.2.2.2.2.1,g.2.2.2.2.2.2.2.1,g.2.2.2.2.2.2.2.2.1,g.2.2.2.2.2.2.2.2.2.1,g.2.2.2.2.2.2.2.2.2.2.1,())]:=fun hza o ho=>by
  rw[List.mem_singleton.1 ho]
  exact⟨(ackd hza).2.2.2,hAt⟩
 rw[k1]at h
 simp only[Ag]at h
 rw[G8 y g zq0 zq0]at h
 rcases Ee h with⟨_,h⟩|⟨_,h⟩
 ·rw[Cw _ (by show s.2.2.1.length≤_;omega),Cw _ zq2]at h
  simp only[Ag]at h
  have h:=Er h
  rcases Ee h with⟨_,h⟩|⟨c2,h⟩
  ·simp only[Option.some.injEq,Prod.mk.injEq,and_true,List.nil_append]at h
   obtain⟨hq,rfl,rfl⟩:=h
   exact⟨X,hq.symm,R4,hR5,hR6,R2,nil.1,Eo turn⟩
  ·have h:=Er h
   have hza:za=0:=by simpa using c2
   simp only[Option.some.injEq,Prod.mk.injEq,and_true,List.nil_append]at h
   obtain⟨hq,rfl,rfl⟩:=h
   obtain⟨A1,A2,A3,A4⟩:=ackd hza
   exact⟨y,hq.symm,A1,A2,A3,by omega,sent hza,Od (Eo turn) (Eo (Anz A1))⟩
 ·rcases Ee h with⟨_,h⟩|⟨c2,h⟩
  ·simp only[Option.some.injEq,Prod.mk.injEq,and_true]at h
   obtain⟨hq,rfl,rfl⟩:=h
   exact⟨X,hq.symm,R4,hR5,hR6,R2,nil⟩
  ·simp only[Ag]at h
   have h:=Er h
   have hza:za=0:=by simpa using c2
   simp only[Option.some.injEq,Prod.mk.injEq,and_true,List.nil_append]at h
   obtain⟨hq,rfl,rfl⟩:=h
   obtain⟨A1,A2,A3,A4⟩:=ackd hza
   exact⟨y,hq.symm,A1,A2,A3,by omega,sent hza,Eo (Anz A1)⟩
end
end Go.Proofs.YtmhhajdeafijmaaGreat

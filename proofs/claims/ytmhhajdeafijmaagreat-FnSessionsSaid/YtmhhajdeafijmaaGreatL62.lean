/-
  That the program and the reference answer alike, in plain terms, and that the laws answer true.
-/
import Derived.Test.YtmhhajdeafijmaaGreatL61
namespace Go.Proofs.YtmhhajdeafijmaaGreat
open Go.RowKit
set_option linter.unusedVariables false
set_option linter.unusedSimpArgs false
set_option maxRecDepth 100000
set_option maxHeartbeats 8000000
noncomputable section
theorem Acb {s r:Bp} {X:Al} {P p':Bb} {n:YI} {a:B7} {d:YBs} {os os2:List Cv} {ns ns2:List B8} {b k c1 c2:Bool} {y:Al} {g:Au} {zz:Int} (hs:Fm s=true) (hd:Ky s=false) (hX:Bo X=true) (h1:X.1=1) (h2:X.2.1=(Ci s).2.1) (hP:Cq P=true) (hn:0≤n.1∧n.1≤1000000) (ha:Dp a=true) (hdl:d.1.length=12)
  (hb:As P≤4294967296) (hc:Av X≤60000000) (hos:Mf os) (hns:Ld ns) (hne:ns≠[]) (hAt:(P.1=(A5 s).1∧P.2.1=(A5 s).2.1)∨(P.1=a.1∧P.2.1=a.2.1)) (hcd:P.2.2.1=[]∨(A5 s).2.2.1.length>0)
  (o:Cc P n a d=some (p',(b,()))) (e:Bm X ((5:Int),()) d=some (y,g,(zz,())))
  (h:br (!b) (some (Gk s X P n.1,(os,()),(ns,()),(false,()))) (br (zz != (0:Int)) (some (Gk s X P n.1,(os,()),(ns,()),(false,()))) (chk c1 (chk c2 (some (Gk s y p' n.1,(os++[(a.1,a.2.1,g.1,g.2.1,g.2.2.1,g.2.2.2.1,g.2.2.2.2.1,g.2.2.2.2.2.1,g.2.2.2.2.2.2.1,g.2.2.2.2.2.2.2.1,g.2.2.2.2.2.2.2.2.1,g.2.2.2.2.2.2.2.2.2.1,g.2.2.2.2.2.2.2.2.2.2.1,())],()),(ns++[Fh y g],()),(true,()))))))=some (r,(os2,()),(ns2,()),(k,()))):Ajj s r n.1 a d.1 os2 ns2 k:=by
 obtain⟨T1,T2,T3⟩:=A5g hs hd hX h1 h2 hP hn ha hdl hb hc hos hns hne hAt hcd o e (m:=Fh y g)
 rcases Ea h with⟨q,h⟩|⟨q,h⟩
 ·have q:b=false:=by simpa using q
  simp only[Option.some.injEq,Prod.mk.injEq,and_true]at h
  obtain⟨rfl,rfl,rfl,rfl⟩:=h
  exact T1 q
 have q:b=true:=by simpa using q
 rcases Ea h with⟨q2,h⟩|⟨q2,h⟩
 ·simp only[Option.some.injEq,Prod.mk.injEq,and_true]at h
  obtain⟨rfl,rfl,rfl,rfl⟩:=h
  exact T2 (by simpa using q2)
 ·have h:=En (En h)
  simp only[Option.some.injEq,Prod.mk.injEq,and_true]at h
  obtain⟨rfl,rfl,rfl,rfl⟩:=h
  exact T3 q (by simpa using q2)
theorem A3s {s1 r:Bp} {X0:Al} {P:Bb} {s:Bp} {n:Int} {ep:YI} {p:YBs} {os:List Cv} {ns:List B8} (he:s1=Gk s X0 P n) (hs:Fm s=true) (hd:Ky s=false) (hX:Bo X0=true) (h1:X0.1=1) (h2:X0.2.1=(Ci s).2.1) (hP:Cq P=true) (hc:Av X0≤50000000)
  (h:N8 s1 ep p=some (r,(os,()),(ns,()))): ∃X,r=Gk s X P n∧Bo X=true∧X.1=1∧X.2.1=(Ci s).2.1∧Av X≤Av X0+200∧Mf os∧Ld ns:=by
 subst he
 obtain⟨q1,q2,q3,q4,q5,q6,q7,q8,q9⟩:=U6 hs hd
 obtain⟨X,zr,r1,_,R1,R2,R3⟩:=Aim X0 ep p zq0
 have nil:Mf []∧Ld []:=⟨fun _ h=>(by cases h),fun _ h=>(by cases h)⟩
 have hck:=Dv X
 unfold N8 N7 at h
 simp only[Ae,Ai,Ac,Aj]at h
 rw[show Ku (Ci (Gk s X0 P n)) ep p=some (X,(zr,()))from r1]at h
 simp only[Ag]at h
 rcases Ea h with⟨c0,h⟩|⟨c0,h⟩
 ·simp only[Option.some.injEq,Prod.mk.injEq,and_true]at h
  obtain⟨hq,rfl,rfl⟩:=h
  exact⟨X0,hq.symm,hX,h1,h2,by omega,nil⟩
 have hz:zr=0:=by simpa using c0
 obtain⟨_,_,R4,R5,R6⟩:=R3 hz
 have hR5:X.1=1:=by rw[R5,h1]
 have hR6:X.2.1=(Ci s).2.1:=by rw[R6,h2]
 have hcf:=Eh R4
 have hcfe:=Dh hcf.2.2.1
 have hN:0≤X.2.2.1∧X.2.2.1≤4294967295:=hcfe.1
 have hK:X.2.2.2.1.length=32:=hcfe.2.1
 obtain⟨y,g,za,k1,_,K1,K2,K3⟩:=A29 X zq0
 have hyk:=Dv y
 have turn:Jt ((10:Int),(0:Int),(1:Int),([]:List YB),s.2.2.1,X.2.2.1,(0:Int),([]:List YB),X.2.2.2.1,(0:Int),(0:Int),(0:Int),())=true:=by
  rw[Q1]
  simp only[List.length_nil]
  exact⟨by omega,by omega,by omega,hN,by omega,by omega,.inl trivial,.inr q3,by omega,.inr hK,Atv⟩
 have ackd:za=0→Bo y=true∧y.1=1∧y.2.1=(Ci s).2.1∧Co g=true:=fun hza=>by
  obtain⟨e',E1,_,_,_,E5⟩:=K3 hza
  obtain⟨_,c2,c3,c4,c5,c6⟩:=E5 rfl
  exact⟨c2,by rw[E1];exact hR5,by rw[E1];exact hR6,by rw[c5];exact Ab8 c6⟩
 have hAt:Dp ((A5 (Gk s X0 P n)).1,(A5 (Gk s X0 P n)).2.1,())=true:=by
  obtain⟨x1,x2,x3,⟨⟩⟩:=P
  exact(Gc.1 hP).1
 have sent:za=0→Mf [((A5 (Gk s X0 P n)).1,(A5 (Gk s X0 P n)).2.1,g.1,g.2.1,g.2.2.1,g.2.2.2.1,g.2.2.2.2.1,g.2.2.2.2.2.1,g.2.2.2.2.2.2.1,g.2.2.2.2.2.2.2.1,g.2.2.2.2.2.2.2.2.1,g.2.2.2.2.2.2.2.2.2.1,g.2.2.2.2.2.2.2.2.2.2.1,())]:=fun hza o ho=>by
  rw[List.mem_singleton.1 ho]
  exact⟨(ackd hza).2.2.2,hAt⟩
 rw[k1]at h
 simp only[Ag]at h
 rw[G4 y g zq0 zq0]at h
 rcases Ea h with⟨_,h⟩|⟨_,h⟩
 ·rw[Cu _ (by show s.2.2.1.length≤_;omega),Cu _ zq2]at h
  simp only[Ag]at h
  have h:=En h
  rcases Ea h with⟨_,h⟩|⟨c2,h⟩
  ·simp only[Option.some.injEq,Prod.mk.injEq,and_true,List.nil_append]at h
   obtain⟨hq,rfl,rfl⟩:=h
   exact⟨X,hq.symm,R4,hR5,hR6,R2,nil.1,El turn⟩
  ·have h:=En h
   have hza:za=0:=by simpa using c2
   simp only[Option.some.injEq,Prod.mk.injEq,and_true,List.nil_append]at h
   obtain⟨hq,rfl,rfl⟩:=h
   obtain⟨A1,A2,A3,A4⟩:=ackd hza
   exact⟨y,hq.symm,A1,A2,A3,by omega,sent hza,Nv (El turn) (El (Al9 A1))⟩
 ·rcases Ea h with⟨_,h⟩|⟨c2,h⟩
  ·simp only[Option.some.injEq,Prod.mk.injEq,and_true]at h
   obtain⟨hq,rfl,rfl⟩:=h
   exact⟨X,hq.symm,R4,hR5,hR6,R2,nil⟩
  ·simp only[Ag]at h
   have h:=En h
   have hza:za=0:=by simpa using c2
   simp only[Option.some.injEq,Prod.mk.injEq,and_true,List.nil_append]at h
   obtain⟨hq,rfl,rfl⟩:=h
   obtain⟨A1,A2,A3,A4⟩:=ackd hza
   exact⟨y,hq.symm,A1,A2,A3,by omega,sent hza,El (Al9 A1)⟩
end
end Go.Proofs.YtmhhajdeafijmaaGreat

/-
  That the program and the reference answer alike, in plain terms, and that the laws answer true.
-/
import Derived.Test.YtmhhajdeafijmaaGreatL33
namespace Go.Proofs.YtmhhajdeafijmaaGreat
open Go.RowKit
set_option linter.unusedVariables false
set_option linter.unusedSimpArgs false
set_option maxRecDepth 100000
set_option maxHeartbeats 8000000
noncomputable section
theorem Axf (c:Ab) (n:YI) (f:Aa) (h:Al c≤8388608) (h2:As f≤8388608) (ho:A0 c=true) (hst:c.2.2.2.2.1=2∨c.2.2.2.2.1=3) (w1:wfB f.2.2.2.1) (w2:wfB (Bm c).2.1):
  ∃r fs ns,C0 c n f=some (r,(fs,()),(ns,()))∧(H6 c n f c).val=some (r,(fs,()),(ns,()))∧ClH c f r fs ns:=by
 have hch:=Av0 c
 obtain⟨ch,p,z,o1,o2,O1,O2,O3,O4⟩:=A1z (Bm c) n f zq0 zq0 w1 w2
 obtain⟨k,kb,y1,y2,y3,y4⟩:=A68 (Bm c) (f.2.2.2.2.2.2.2.1,()) zq0
 have htl:=Ad7 1 f
 have hfs:f.2.2.2.1.length≤As f:=by simp only[As];omega
 obtain⟨y,g,z2,g1,g2,G⟩:=Ad0 ch 6 p zq0
 obtain⟨e',G1,G2,G3,G4,G5⟩:=G
 have hkn:=Aqh ch
 have hkn2:=Aqh y
 have hkn3:=Aqh (Bm c)
 have hsn:ch.2.1.length≤Ar ch:=by simp only[Ar];omega
 have hcn:c.2.2.2.2.2.1.length≤Al c:=by simp only[Al];omega
 have hgs:g.2.2.2.1.length≤As g:=by simp only[As];omega
 have hck:c.2.2.2.2.2.2.2.2.2.2.2.2.2.2.2.2.2.2.2.2.1.length≤Al c:=by simp only[Al];omega
 unfold C0 Q9
 simp only[Ag,Ai,Ad,Ao,Azt,Z3,Z4,Z5,Z6,Z7,Z8,Z9,Aaa,Aab,Ue,Uf,Ug,Uh,Ui,Uj,Uk,Ul,Um,Un,Uo,Up,Uq,Ur,Us,Ut,Uu,Uv,Uw,Ux,Uy,Uz,U0,U1,U2,U3,U4,U5,U6,U7,U8,U9,Va,Vb,Vc,Vd,Ve,Vf,Vg,Vh,Vi,Vj,Vk,Vl,Vm,Vn,Vo,Vp,Vq,Vr,Vs,Vt,Vu,Vv,Vw,Vx,Vy,Vz,V0,V2,V3,V4,V5,V6,V7,V8,V9,Wa,Wb,Wc,Wd,We,Wg,Wh,Wi,Wj,Wk,Wl,Wm,Wn,Wo,Wp,Wq,Wr,Ws,Wt,Wu,Wv,Ww,Wx,Sw,Sx,Sy,Sz,S1,S2,S3,H6]
 rw[Gd c zq0]
 rw[show Jb _ n f=some (ch,(p,()),(z,()))from o1,show Fc _ n f=some (ch,(p,()),(z,()))from o2,show Xg _ (f.2.2.2.2.2.2.2.1,())=some ((k,()),(kb,()))from y1,show Xa _ (f.2.2.2.2.2.2.2.1,())=some ((k,()),(kb,()))from y2,Jx _ _ zq0,Pw _ _ zq0]
 simp only[Aj]
 by_cases hz:z=0
 case neg=>
  rw[Ej (by simpa using hz),Ej (by simpa using hz)]
  exact⟨c,[],[],rfl,rfl,.none⟩
 case pos=>
 subst hz
 obtain⟨P1,P2,P3,P4,P5,P6,P7,P8,P9,P10,P11⟩:=O4 rfl
 have hfc:f.2.2.2.1=ch.2.1:=by rw[P6,P8]
 rw[Cp (by rfl),Cp (by rfl),Bb2 _ _ _ zq0 zq0 zq0,Bb3 _ _ _ zq0 zq0 zq0,g1,g2]
 simp only[Aj]
 have lens: ∀(a:Ae) (l:List Ae),[a].length≤4294967296:=fun a l=>by simp
 simp (disch:=first|omega|(dsimp only;omega)) only[Cd,Aay,A63,Aj,hfc,List.length_cons,List.length_nil,List.length_append,Nat.zero_add,Nat.reduceAdd,Nat.reduceLeDiff,decide_true,A5]
 have hc0:Bd (Bm c)=true∧(Bm c).1=0∧c.2.2.2.2.2.1.length=12:=by
  rcases hst with hs|hs
  ·obtain⟨a1,a2,a3,_⟩:=Azs ho hs
   exact⟨a2,a3,a1⟩
  ·obtain⟨a1,_,a2,a3,_⟩:=Th ho hs
   exact⟨a2,a3,a1⟩
 obtain⟨q1,q2,q3⟩:=hc0
 obtain⟨k1,k2,k3⟩:=Og ho
 obtain⟨f1,f2,f3,f4,f5⟩:=Ff P2
 obtain⟨f6,f7,f8⟩:=Ec f3
 have f6:0≤ch.2.2.1∧ch.2.2.1≤4294967295:=f6
 have f7:ch.2.2.2.1.length=32:=f7
 have fc:=(Ec (Ff P1).2.2.1).2.1
 have fc:c.2.2.2.2.2.2.2.2.2.2.2.2.2.2.2.2.2.2.2.2.1.length=32:=fc
 obtain⟨b1,b2,b3,b4,b5⟩:=Aim P4 P5
 have hsl:ch.2.1.length=12:=by rw[←hfc];exact b1
 have hU:Fg ((3:Int),c.1,(0:Int),c.2.2.2.2.2.1,ch.2.1,(0:Int),(0:Int),([]:List YB),c.2.2.2.2.2.2.2.2.2.2.2.2.2.2.2.2.2.2.2.2.1,(0:Int),(0:Int),(0:Int),())=true:=by
  rw[Gy]
  simp only[List.length_nil]
  exact⟨by omega,by omega,by omega,by omega,by omega,by omega,.inr q3,.inr hsl,by omega,.inr fc,Xi⟩
 have hT:Fg ((10:Int),(0:Int),(0:Int),([]:List YB),ch.2.1,ch.2.2.1,(0:Int),([]:List YB),ch.2.2.2.1,(0:Int),(0:Int),(0:Int),())=true:=by
  rw[Gy]
  simp only[List.length_nil]
  exact⟨by omega,by omega,by omega,by omega,by omega,by omega,.inl trivial,.inr hsl,by omega,.inr f7,Xi⟩
 have hG:Fg ((6:Int),(0:Int),(1:Int),([]:List YB),ch.2.1,f.2.2.2.2.2.2.2.1,f.2.2.2.2.2.2.2.2.1,p,([]:List YB),(0:Int),(0:Int),n.1,())=true:=by
  rw[Gy]
  simp only[List.length_nil]
  exact⟨by omega,by omega,by omega,by omega,by omega,P3,.inl trivial,.inr hsl,by omega,.inl trivial,Xi⟩
 have hK:Fg (Ain k ch.2.1 (Bs 1 f))=true:=A8y y4 (.inr hsl) zq0
 have tl:=Ad7 y.1 g
 have lU:D0 ((3:Int),c.1,(0:Int),c.2.2.2.2.2.1,ch.2.1,(0:Int),(0:Int),([]:List YB),c.2.2.2.2.2.2.2.2.2.2.2.2.2.2.2.2.2.2.2.2.1,(0:Int),(0:Int),(0:Int),())≤400:=by
  simp only[D0,List.length_nil];omega
 have lT:D0 ((10:Int),(0:Int),(0:Int),([]:List YB),ch.2.1,ch.2.2.1,(0:Int),([]:List YB),ch.2.2.2.1,(0:Int),(0:Int),(0:Int),())≤400:=by
  simp only[D0,List.length_nil];omega
 have lG:D0 ((6:Int),(0:Int),(1:Int),([]:List YB),ch.2.1,f.2.2.2.2.2.2.2.1,f.2.2.2.2.2.2.2.2.1,p,([]:List YB),(0:Int),(0:Int),n.1,())≤400:=by
  simp only[D0,List.length_nil];omega
 have lK:D0 (Ain k ch.2.1 (Bs 1 f))≤400:=by
  simp only[D0,Ain,List.length_nil];omega
 have hseal:z2=0→g.2.2.2.1=ch.2.1∧Bd y=true∧y.1=ch.1∧Bl y=Bl ch∧N3 [g]∧Fg (Sf y g)=true∧Fg ((8:Int),(0:Int),(0:Int),([]:List YB),ch.2.1,g.2.2.2.2.2.2.2.1,(0:Int),p,([]:List YB),(0:Int),(0:Int),(0:Int),())=true∧D0 (Sf y g)≤400∧D0 ((8:Int),(0:Int),(0:Int),([]:List YB),ch.2.1,g.2.2.2.2.2.2.2.1,(0:Int),p,([]:List YB),(0:Int),(0:Int),(0:Int),())≤400:=fun hz2=>by
  obtain⟨w1,w2,w3,w4,w5,w6⟩:=G5 hz2
  have s1:g.2.2.2.1=ch.2.1:=by rw[w5];exact Av1 w6
  have s2:g.2.2.2.2.2.2.2.1=ch.2.2.1:=by rw[w5];unfold Be;rw[w6];rfl
  have s3:=Ri w6
  rw[←w5]at s3
  have s4:y.2.2.2.1=ch.2.2.2.1:=by rw[G1];exact w4
  refine⟨s1,w2,by rw[G1];rfl,by rw[G1];rfl,?_,Azr w2,?_,?_,?_⟩
  ·intro x hx
   simp only[List.mem_singleton]at hx
   rw[hx];exact s3
  ·rw[Gy]
   simp only[List.length_nil]
   exact⟨by omega,by omega,by omega,by omega,by omega,by omega,.inl trivial,.inr hsl,by omega,.inl trivial,Xi⟩
  ·simp only[D0,Sf,Se,List.length_nil,s4];omega
  ·simp only[D0,List.length_nil];omega
 have leaf: ∀ {fi:Aa} {X:Af} {t r:A9} {fs:List Aa} {ns:List Ae},(fi=Dz∨fi=Cr c)→X.2.1=ch.2.1→Ar X≤Ar ch→(A0 (Dn c 3 fi X t r n.1)=true)→(fs=[]∨(fs=[g]∧N3 [g]))→ns≠[]→ns.length+F3 D0 ns≤2406→Ed ns→ClH c f (Dn c 3 fi X t r n.1) fs ns:=fun {fi X t r fs ns} e1 e0 e2 e3 e4 e5 e6 e7=>by
  refine⟨?_,?_,?_,fun h=>(e5 h).elim,?_,rfl,rfl,rfl,fun _=>e3,?_,e7,fun _ h=>?_⟩
  ·rcases e1 with rfl|rfl
   ·simp only[Al,Dn,Dz,List.length_nil,Ar]at*;omega
   ·simp only[Al,Dn,Ar]at*;omega
  ·rcases e4 with rfl|⟨rfl,_⟩
   ·simp[F3]
   ·simp only[F3,List.length_cons,List.length_nil];omega
  ·omega
  ·rcases e4 with rfl|⟨rfl,_⟩<;>simp
  ·rcases e4 with rfl|⟨rfl,e⟩
   ·intro x hx;cases hx
   ·exact e
  ·show wfB X.2.1
   rw[e0,P8];exact h
 have nN: ∀l:List Ae,Ed l↔ ∀x∈l,Fg x=true:=fun _=>Iff.rfl
 have e54:f.1=4→(f.1==5)=false:=fun h=>by rw[h];rfl
 have d1:decide (c.2.2.2.2.2.1.length≤4294967296)=true:=Am zq0
 have d2:decide (ch.2.1.length≤4294967296)=true:=Am zq0
 have d3:decide (c.2.2.2.2.2.2.2.2.2.2.2.2.2.2.2.2.2.2.2.2.1.length≤4294967296)=true:=Am zq0
 have d4:decide (p.length≤4294967296)=true:=Am zq0
 have d5:decide (ch.2.2.2.1.length≤4294967296)=true:=Am zq0
 simp only[d1,d2,d3,d4,d5,A5]
 clear w1 w2 o1 o2 y1 y2 g1 g2 O3 O4 d1 d2 d3 d4 d5
 rcases hst with hs|hs
 ·obtain⟨_,a2,a3,a4,a5⟩:=Azs ho hs
  have hN:ch.2.2.1=(Bm c).2.2.1∧Bl ch=Bl (Bm c):=by
   rcases P11 with⟨x1,x2,_⟩|⟨_,_,_,_,x⟩
   ·exact⟨x1,x2⟩
   ·omega
  have hNN:(ch.2.2.1==c.2.2.2.2.2.2.2.2.2.2.2.2.2.2.2.2.2.2.2.1)=true:=by simpa using hN.1
  have hcl: ∀X:Af,Bd X=true→X.1=0→Bl X=Bl ch→A0 (Dn c 3 Dz X (false,0,0,0,()) (clR c) n.1)=true:=fun X x1 x2 x3=>
   Axo ho q3 rfl x1 x2 rfl (by have:=Aby (clR c);rw[a5]at this;simp at this;exact this.2) (by rw[x3,hN.2];have:=Aby (clR c);rw[a5]at this;simp at this;have hh:(clR c).1=false:=this.1;rw[hh];simp;exact List.length_eq_zero_iff.1 a4) P3
  have hch':=hcl ch P2 (by rw[P7,q2]) rfl
  simp only[hs,hNN,bne,show((2:Int)==2)=true by decide,Bool.not_true,An,Aw]
  cases h4:(f.1==4)with
  |true=>
   have h5:=e54 (by simpa using h4)
   simp only[h5,An,Aw,Bool.not_false]
   refine⟨_,_,_,rfl,rfl,?_⟩;exact leaf (fi:=Dz) (X:=ch) (t:=((false,0,0,0,()):A9)) (r:=clR c) (.inl rfl) rfl zq0 hch' (.inl rfl) zq3 (by simp only[F4,F3,List.length_append,List.length_cons,List.length_nil];omega) (by unfold Ed;simp only[List.forall_mem_append,List.forall_mem_cons,hU,hT,hG,hK,true_and,and_true,List.not_mem_nil,false_imp_iff,implies_true])
  |false=>
   simp only[An,Aw]
   cases h5:(f.1==5)with
   |false=>
    simp only[An,Aw,Bool.not_false,Bool.not_true]
    refine⟨_,_,_,rfl,rfl,?_⟩;exact leaf (fi:=Dz) (X:=ch) (t:=((false,0,0,0,()):A9)) (r:=clR c) (.inl rfl) rfl zq0 hch' (.inl rfl) zq3 (by simp only[F4,F3,List.length_append,List.length_cons,List.length_nil];omega) (by unfold Ed;simp only[List.forall_mem_append,List.forall_mem_cons,hU,hT,hG,hK,true_and,and_true,List.not_mem_nil,false_imp_iff,implies_true])
   |true=>
    simp only[An,Aw,Bool.not_false,Bool.not_true]
    cases hz2:(z2==0)with
    |false=>
     simp only[An,Aw,Bool.not_false,Bool.not_true]
     refine⟨_,_,_,rfl,rfl,?_⟩;exact leaf (fi:=Dz) (X:=ch) (t:=((false,0,0,0,()):A9)) (r:=clR c) (.inl rfl) rfl zq0 hch' (.inl rfl) zq3 (by simp only[F4,F3,List.length_append,List.length_cons,List.length_nil];omega) (by unfold Ed;simp only[List.forall_mem_append,List.forall_mem_cons,hU,hT,hG,hK,true_and,and_true,List.not_mem_nil,false_imp_iff,implies_true])
    |true=>
     obtain⟨s1,s2,s3,s4,s5,s6,s7,s8,s9⟩:=hseal (by simpa using hz2)
     simp only[An,Aw,Bool.not_false,Bool.not_true,s1]
     refine⟨_,_,_,rfl,rfl,?_⟩;exact leaf (fi:=Dz) (X:=y) (t:=((false,0,0,0,()):A9)) (r:=clR c) (.inl rfl) (by rw[G1];rfl) zq0 (hcl y s2 (by rw[s3,P7,q2]) s4) (.inr ⟨rfl,s5⟩) zq3 (by simp only[F4,F3,List.length_append,List.length_cons,List.length_nil];omega) (by unfold Ed;simp only[List.forall_mem_append,List.forall_mem_cons,hU,hT,hG,hK,s6,s7,true_and,and_true,List.not_mem_nil,false_imp_iff,implies_true])
 ·obtain⟨_,a1,a2,a3,a4,a5,a6⟩:=Th ho hs
  cases hNN:(ch.2.2.1==c.2.2.2.2.2.2.2.2.2.2.2.2.2.2.2.2.2.2.2.1)with
  |true=>
   have hN:ch.2.2.1=(Bm c).2.2.1∧Bl ch=Bl (Bm c):=by
    have hNe:ch.2.2.1=(Bm c).2.2.1:=by simpa using hNN
    rcases P11 with⟨x1,x2,_⟩|⟨x,_⟩
    ·exact⟨x1,x2⟩
    ·omega
   have hcl: ∀X:Af,Bd X=true→X.1=0→Bl X=Bl ch→A0 (Dn c 3 (Cr c) X (clT c) (clR c) n.1)=true:=fun X x1 x2 x3=>
    Axo ho q3 a1 x1 x2 a4 a5 (by rw[x3,hN.2];exact a6) P3
   have hch':=hcl ch P2 (by rw[P7,q2]) rfl
   simp only[hs,bne,hNN,show((3:Int)==2)=false by decide,Bool.not_true,An,Aw]
   cases h4:(f.1==4)with
   |true=>
    have h5:=e54 (by simpa using h4)
    simp only[h5,An,Aw,Bool.not_false]
    refine⟨_,_,_,rfl,rfl,?_⟩;exact leaf (fi:=Cr c) (X:=ch) (t:=clT c) (r:=clR c) (.inr rfl) rfl zq0 hch' (.inl rfl) zq3 (by simp only[F4,F3,List.length_append,List.length_cons,List.length_nil];omega) (by unfold Ed;simp only[List.forall_mem_append,List.forall_mem_cons,hU,hT,hG,hK,true_and,and_true,List.not_mem_nil,false_imp_iff,implies_true])
   |false=>
    simp only[An,Aw]
    cases h5:(f.1==5)with
    |false=>
     simp only[An,Aw,Bool.not_false,Bool.not_true]
     refine⟨_,_,_,rfl,rfl,?_⟩;exact leaf (fi:=Cr c) (X:=ch) (t:=clT c) (r:=clR c) (.inr rfl) rfl zq0 hch' (.inl rfl) zq3 (by simp only[F4,F3,List.length_append,List.length_cons,List.length_nil];omega) (by unfold Ed;simp only[List.forall_mem_append,List.forall_mem_cons,hU,hT,hG,hK,true_and,and_true,List.not_mem_nil,false_imp_iff,implies_true])
    |true=>
     simp only[An,Aw,Bool.not_false,Bool.not_true]
     cases hz2:(z2==0)with
     |false=>
      simp only[An,Aw,Bool.not_false,Bool.not_true]
      refine⟨_,_,_,rfl,rfl,?_⟩;exact leaf (fi:=Cr c) (X:=ch) (t:=clT c) (r:=clR c) (.inr rfl) rfl zq0 hch' (.inl rfl) zq3 (by simp only[F4,F3,List.length_append,List.length_cons,List.length_nil];omega) (by unfold Ed;simp only[List.forall_mem_append,List.forall_mem_cons,hU,hT,hG,hK,true_and,and_true,List.not_mem_nil,false_imp_iff,implies_true])
     |true=>
      obtain⟨s1,s2,s3,s4,s5,s6,s7,s8,s9⟩:=hseal (by simpa using hz2)
      simp only[An,Aw,Bool.not_false,Bool.not_true,s1]
      refine⟨_,_,_,rfl,rfl,?_⟩;exact leaf (fi:=Cr c) (X:=y) (t:=clT c) (r:=clR c) (.inr rfl) (by rw[G1];rfl) zq0 (hcl y s2 (by rw[s3,P7,q2]) s4) (.inr ⟨rfl,s5⟩) zq3 (by simp only[F4,F3,List.length_append,List.length_cons,List.length_nil];omega) (by unfold Ed;simp only[List.forall_mem_append,List.forall_mem_cons,hU,hT,hG,hK,s6,s7,true_and,and_true,List.not_mem_nil,false_imp_iff,implies_true])
  |false=>
   have hN:Bl ch=[]:=by
    have hNe:ch.2.2.1≠(Bm c).2.2.1:=by simpa using hNN
    rcases P11 with⟨x1,_⟩|⟨_,x,_⟩
    ·exact(hNe x1).elim
    ·exact x
   have hcl: ∀X:Af,Bd X=true→X.1=0→Bl X=Bl ch→A0 (Dn c 3 (Cr c) X (clT c) (false,0,0,0,()) n.1)=true:=fun X x1 x2 x3=>
    Axo ho q3 a1 x1 x2 a4 rfl (by rw[x3,hN];rfl) P3
   have hch':=hcl ch P2 (by rw[P7,q2]) rfl
   simp only[hs,bne,hNN,show((3:Int)==2)=false by decide,Bool.not_false,An,Aw]
   cases h4:(f.1==4)with
   |true=>
    have h5:=e54 (by simpa using h4)
    simp only[h5,An,Aw,Bool.not_false]
    refine⟨_,_,_,rfl,rfl,?_⟩;exact leaf (fi:=Cr c) (X:=ch) (t:=clT c) (r:=((false,0,0,0,()):A9)) (.inr rfl) rfl zq0 hch' (.inl rfl) zq3 (by simp only[F4,F3,List.length_append,List.length_cons,List.length_nil];omega) (by unfold Ed;simp only[List.forall_mem_append,List.forall_mem_cons,hU,hT,hG,hK,true_and,and_true,List.not_mem_nil,false_imp_iff,implies_true])
   |false=>
    simp only[An,Aw]
    cases h5:(f.1==5)with
    |false=>
     simp only[An,Aw,Bool.not_false,Bool.not_true]
     refine⟨_,_,_,rfl,rfl,?_⟩;exact leaf (fi:=Cr c) (X:=ch) (t:=clT c) (r:=((false,0,0,0,()):A9)) (.inr rfl) rfl zq0 hch' (.inl rfl) zq3 (by simp only[F4,F3,List.length_append,List.length_cons,List.length_nil];omega) (by unfold Ed;simp only[List.forall_mem_append,List.forall_mem_cons,hU,hT,hG,hK,true_and,and_true,List.not_mem_nil,false_imp_iff,implies_true])
    |true=>
     simp only[An,Aw,Bool.not_false,Bool.not_true]
     cases hz2:(z2==0)with
     |false=>
      simp only[An,Aw,Bool.not_false,Bool.not_true]
      refine⟨_,_,_,rfl,rfl,?_⟩;exact leaf (fi:=Cr c) (X:=ch) (t:=clT c) (r:=((false,0,0,0,()):A9)) (.inr rfl) rfl zq0 hch' (.inl rfl) zq3 (by simp only[F4,F3,List.length_append,List.length_cons,List.length_nil];omega) (by unfold Ed;simp only[List.forall_mem_append,List.forall_mem_cons,hU,hT,hG,hK,true_and,and_true,List.not_mem_nil,false_imp_iff,implies_true])
     |true=>
      obtain⟨s1,s2,s3,s4,s5,s6,s7,s8,s9⟩:=hseal (by simpa using hz2)
      simp only[An,Aw,Bool.not_false,Bool.not_true,s1]
      refine⟨_,_,_,rfl,rfl,?_⟩;exact leaf (fi:=Cr c) (X:=y) (t:=clT c) (r:=((false,0,0,0,()):A9)) (.inr rfl) (by rw[G1];rfl) zq0 (hcl y s2 (by rw[s3,P7,q2]) s4) (.inr ⟨rfl,s5⟩) zq3 (by simp only[F4,F3,List.length_append,List.length_cons,List.length_nil];omega) (by unfold Ed;simp only[List.forall_mem_append,List.forall_mem_cons,hU,hT,hG,hK,s6,s7,true_and,and_true,List.not_mem_nil,false_imp_iff,implies_true])
end
end Go.Proofs.YtmhhajdeafijmaaGreat

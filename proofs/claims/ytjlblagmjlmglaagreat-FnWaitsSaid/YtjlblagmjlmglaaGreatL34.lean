/-
  That the program and the reference answer alike, in plain terms, and that the laws answer true.
-/
import Derived.Test.YtjlblagmjlmglaaGreatL33
namespace Go.Proofs.YtjlblagmjlmglaaGreat
open Go.RowKit
set_option linter.unusedVariables false
set_option linter.unusedSimpArgs false
set_option maxRecDepth 100000
set_option maxHeartbeats 8000000
noncomputable section
theorem Axq (c:Ab) (n:YI) (f:Aa) (h:An c≤8388608) (h2:Ar f≤8388608) (ho:Bk c=true) (hst:c.2.2.2.2.1=2∨c.2.2.2.2.1=3) (w1:wfB f.2.2.2.1) (w2:wfB (Cw c).2.1):
  ∃r fs ns,Dn c n f=some (r,(fs,()),(ns,()))∧(Hz c n f c).val=some (r,(fs,()),(ns,()))∧ClH c f r fs ns:=by
 have hch:=Av8 c
 obtain⟨ch,p,z,o1,o2,O1,O2,O3,O4⟩:=A2b (Cw c) n f zq0 zq0 w1 w2
 obtain⟨k,kb,y1,y2,y3,y4⟩:=A7v (Cw c) (f.2.2.2.2.2.2.2.1,()) zq0
 have htl:=Adh 1 f
 have hfs:f.2.2.2.1.length≤Ar f:=by simp only[Ar];omega
 obtain⟨y,g,z2,g1,g2,G⟩:=A18 ch 6 p zq0
 obtain⟨e',G1,G2,G3,G4,G5⟩:=G
 have hkn:=Ap9 ch
 have hkn2:=Ap9 y
 have hkn3:=Ap9 (Cw c)
 have hsn:ch.2.1.length≤A0 ch:=by simp only[A0];omega
 have hcn:c.2.2.2.2.2.1.length≤An c:=by simp only[An];omega
 have hgs:g.2.2.2.1.length≤Ar g:=by simp only[Ar];omega
 have hck:c.2.2.2.2.2.2.2.2.2.2.2.2.2.2.2.2.2.2.2.2.1.length≤An c:=by simp only[An];omega
 unfold Dn Aeq
 simp only[Ai,Aj,Ad,Ap,A9u,Zc,Zd,Ze,Zf,Zg,Zh,Zi,Zj,Zk,Ts,Tt,Tu,Tv,Tw,Tx,Tz,T0,T1,T2,T3,T4,T5,T6,T7,T8,T9,Ua,Ub,Uc,Ud,Ue,Uf,Ug,Uh,Ui,Uj,Uk,Ul,Um,Un,Uo,Up,Uq,Ur,Us,Ut,Uu,Uv,Uw,Ux,Uy,Uz,U0,U1,U2,U3,U4,U5,U6,U7,U8,U9,Va,Vb,Vc,Vd,Ve,Vf,Vg,Vh,Vi,Vj,Vk,Vl,Vm,Vn,Vo,Vp,Vq,Vr,Vs,Vt,Vu,Vv,Vw,Vx,Vy,Vz,V0,V2,V3,V4,V5,V6,V7,V8,V9,Wa,Wb,R9,Sa,Sb,Sc,Sd,Se,Sf,Hz]
 rw[Hh c zq0]
 rw[show Lh _ n f=some (ch,(p,()),(z,()))from o1,show Hb _ n f=some (ch,(p,()),(z,()))from o2,show Wv _ (f.2.2.2.2.2.2.2.1,())=some ((k,()),(kb,()))from y1,show Wn _ (f.2.2.2.2.2.2.2.1,())=some ((k,()),(kb,()))from y2,Pd _ _ zq0,Pe _ _ zq0]
 simp only[Al]
 by_cases hz:z=0
 case neg=>
  rw[Ec (by simpa using hz),Ec (by simpa using hz)]
  exact⟨c,[],[],rfl,rfl,.none⟩
 case pos=>
 subst hz
 obtain⟨P1,P2,P3,P4,P5,P6,P7,P8,P9,P10,P11⟩:=O4 rfl
 have hfc:f.2.2.2.1=ch.2.1:=by rw[P6,P8]
 rw[Co (by rfl),Co (by rfl),Bck _ _ _ zq0 zq0 zq0,Bcl _ _ _ zq0 zq0 zq0,g1,g2]
 simp only[Al]
 have lens: ∀(a:Ae) (l:List Ae),[a].length≤4294967296:=fun a l=>by simp
 simp (disch:=first|omega|(dsimp only;omega)) only[Cg,A9m,A7o,Al,hfc,List.length_cons,List.length_nil,List.length_append,Nat.zero_add,Nat.reduceAdd,Nat.reduceLeDiff,decide_true,A8]
 have hc0:Bw (Cw c)=true∧(Cw c).1=0∧c.2.2.2.2.2.1.length=12:=by
  rcases hst with hs|hs
  ·obtain⟨a1,a2,a3,_⟩:=A71 ho hs
   exact⟨a2,a3,a1⟩
  ·obtain⟨a1,_,a2,a3,_⟩:=A72 ho hs
   exact⟨a2,a3,a1⟩
 obtain⟨q1,q2,q3⟩:=hc0
 obtain⟨k1,k2,k3⟩:=W6 ho
 obtain⟨f1,f2,f3,f4,f5⟩:=Hj P2
 obtain⟨f6,f7,f8⟩:=Eo f3
 have f6:0≤ch.2.2.1∧ch.2.2.1≤4294967295:=f6
 have f7:ch.2.2.2.1.length=32:=f7
 have fc:=(Eo (Hj P1).2.2.1).2.1
 have fc:c.2.2.2.2.2.2.2.2.2.2.2.2.2.2.2.2.2.2.2.2.1.length=32:=fc
 obtain⟨b1,b2,b3,b4,b5⟩:=Ah4 P4 P5
 have hsl:ch.2.1.length=12:=by rw[←hfc];exact b1
 have hU:I1 ((3:Int),c.1,(0:Int),c.2.2.2.2.2.1,ch.2.1,(0:Int),(0:Int),([]:List YB),c.2.2.2.2.2.2.2.2.2.2.2.2.2.2.2.2.2.2.2.2.1,(0:Int),(0:Int),(0:Int),())=true:=by
  rw[Jq]
  simp only[List.length_nil]
  exact⟨by omega,by omega,by omega,by omega,by omega,by omega,.inr q3,.inr hsl,by omega,.inr fc,Ah6⟩
 have hT:I1 ((10:Int),(0:Int),(0:Int),([]:List YB),ch.2.1,ch.2.2.1,(0:Int),([]:List YB),ch.2.2.2.1,(0:Int),(0:Int),(0:Int),())=true:=by
  rw[Jq]
  simp only[List.length_nil]
  exact⟨by omega,by omega,by omega,by omega,by omega,by omega,.inl trivial,.inr hsl,by omega,.inr f7,Ah6⟩
 have hG:I1 ((6:Int),(0:Int),(1:Int),([]:List YB),ch.2.1,f.2.2.2.2.2.2.2.1,f.2.2.2.2.2.2.2.2.1,p,([]:List YB),(0:Int),(0:Int),n.1,())=true:=by
  rw[Jq]
  simp only[List.length_nil]
  exact⟨by omega,by omega,by omega,by omega,by omega,P3,.inl trivial,.inr hsl,by omega,.inl trivial,Ah6⟩
 have hK:I1 (Ah5 k ch.2.1 (Dr 1 f))=true:=A9s y4 (.inr hsl) zq0
 have tl:=Adh y.1 g
 have lU:De ((3:Int),c.1,(0:Int),c.2.2.2.2.2.1,ch.2.1,(0:Int),(0:Int),([]:List YB),c.2.2.2.2.2.2.2.2.2.2.2.2.2.2.2.2.2.2.2.2.1,(0:Int),(0:Int),(0:Int),())≤400:=by
  simp only[De,List.length_nil];omega
 have lT:De ((10:Int),(0:Int),(0:Int),([]:List YB),ch.2.1,ch.2.2.1,(0:Int),([]:List YB),ch.2.2.2.1,(0:Int),(0:Int),(0:Int),())≤400:=by
  simp only[De,List.length_nil];omega
 have lG:De ((6:Int),(0:Int),(1:Int),([]:List YB),ch.2.1,f.2.2.2.2.2.2.2.1,f.2.2.2.2.2.2.2.2.1,p,([]:List YB),(0:Int),(0:Int),n.1,())≤400:=by
  simp only[De,List.length_nil];omega
 have lK:De (Ah5 k ch.2.1 (Dr 1 f))≤400:=by
  simp only[De,Ah5,List.length_nil];omega
 have hseal:z2=0→g.2.2.2.1=ch.2.1∧Bw y=true∧y.1=ch.1∧Cy y=Cy ch∧Aqa [g]∧I1 (Aa7 y g)=true∧I1 ((8:Int),(0:Int),(0:Int),([]:List YB),ch.2.1,g.2.2.2.2.2.2.2.1,(0:Int),p,([]:List YB),(0:Int),(0:Int),(0:Int),())=true∧De (Aa7 y g)≤400∧De ((8:Int),(0:Int),(0:Int),([]:List YB),ch.2.1,g.2.2.2.2.2.2.2.1,(0:Int),p,([]:List YB),(0:Int),(0:Int),(0:Int),())≤400:=fun hz2=>by
  obtain⟨w1,w2,w3,w4,w5,w6⟩:=G5 hz2
  have s1:g.2.2.2.1=ch.2.1:=by rw[w5];exact A7p w6
  have s2:g.2.2.2.2.2.2.2.1=ch.2.2.1:=by rw[w5];unfold D6;rw[w6];rfl
  have s3:=Aud w6
  rw[←w5]at s3
  have s4:y.2.2.2.1=ch.2.2.2.1:=by rw[G1];exact w4
  refine⟨s1,w2,by rw[G1];rfl,by rw[G1];rfl,?_,A9t w2,?_,?_,?_⟩
  ·intro x hx
   simp only[List.mem_singleton]at hx
   rw[hx];exact s3
  ·rw[Jq]
   simp only[List.length_nil]
   exact⟨by omega,by omega,by omega,by omega,by omega,by omega,.inl trivial,.inr hsl,by omega,.inl trivial,Ah6⟩
  ·simp only[De,Aa7,Rw,List.length_nil,s4];omega
  ·simp only[De,List.length_nil];omega
 have leaf: ∀ {fi:Aa} {X:Af} {t r:Bg} {fs:List Aa} {ns:List Ae},(fi=Du∨fi=Ez c)→X.2.1=ch.2.1→A0 X≤A0 ch→(Bk (Hp c 3 fi X t r n.1)=true)→(fs=[]∨(fs=[g]∧Aqa [g]))→ns≠[]→ns.length+Dg De ns≤2406→Fs ns→ClH c f (Hp c 3 fi X t r n.1) fs ns:=fun {fi X t r fs ns} e1 e0 e2 e3 e4 e5 e6 e7=>by
  refine⟨?_,?_,?_,fun h=>(e5 h).elim,?_,rfl,rfl,rfl,fun _=>e3,?_,e7,fun _ h=>?_⟩
  ·rcases e1 with rfl|rfl
   ·simp only[An,Hp,Du,List.length_nil,A0]at*;omega
   ·simp only[An,Hp,A0]at*;omega
  ·rcases e4 with rfl|⟨rfl,_⟩
   ·simp[Dg]
   ·simp only[Dg,List.length_cons,List.length_nil];omega
  ·omega
  ·rcases e4 with rfl|⟨rfl,_⟩<;>simp
  ·rcases e4 with rfl|⟨rfl,e⟩
   ·intro x hx;cases hx
   ·exact e
  ·show wfB X.2.1
   rw[e0,P8];exact h
 have nN: ∀l:List Ae,Fs l↔ ∀x∈l,I1 x=true:=fun _=>Iff.rfl
 have e54:f.1=4→(f.1==5)=false:=fun h=>by rw[h];rfl
 have d1:decide (c.2.2.2.2.2.1.length≤4294967296)=true:=Ao zq0
 have d2:decide (ch.2.1.length≤4294967296)=true:=Ao zq0
 have d3:decide (c.2.2.2.2.2.2.2.2.2.2.2.2.2.2.2.2.2.2.2.2.1.length≤4294967296)=true:=Ao zq0
 have d4:decide (p.length≤4294967296)=true:=Ao zq0
 have d5:decide (ch.2.2.2.1.length≤4294967296)=true:=Ao zq0
 simp only[d1,d2,d3,d4,d5,A8]
 clear w1 w2 o1 o2 y1 y2 g1 g2 O3 O4 d1 d2 d3 d4 d5
 rcases hst with hs|hs
 ·obtain⟨_,a2,a3,a4,a5⟩:=A71 ho hs
  have hN:ch.2.2.1=(Cw c).2.2.1∧Cy ch=Cy (Cw c):=by
   rcases P11 with⟨x1,x2,_⟩|⟨_,_,_,_,x⟩
   ·exact⟨x1,x2⟩
   ·omega
  have hNN:(ch.2.2.1==c.2.2.2.2.2.2.2.2.2.2.2.2.2.2.2.2.2.2.2.1)=true:=by simpa using hN.1
  have hcl: ∀X:Af,Bw X=true→X.1=0→Cy X=Cy ch→Bk (Hp c 3 Du X (false,0,0,0,()) (clR c) n.1)=true:=fun X x1 x2 x3=>
   A5f ho q3 rfl x1 x2 rfl (by have:=Aa6 (clR c);rw[a5]at this;simp at this;exact this.2) (by rw[x3,hN.2];have:=Aa6 (clR c);rw[a5]at this;simp at this;have hh:(clR c).1=false:=this.1;rw[hh];simp;exact List.length_eq_zero_iff.1 a4) P3
  have hch':=hcl ch P2 (by rw[P7,q2]) rfl
  simp only[hs,hNN,bne,show((2:Int)==2)=true by decide,Bool.not_true,Aq,Ax]
  cases h4:(f.1==4)with
  |true=>
   have h5:=e54 (by simpa using h4)
   simp only[h5,Aq,Ax,Bool.not_false]
   refine⟨_,_,_,rfl,rfl,?_⟩;exact leaf (fi:=Du) (X:=ch) (t:=((false,0,0,0,()):Bg)) (r:=clR c) (.inl rfl) rfl zq0 hch' (.inl rfl) zq3 (by simp only[Ft,Dg,List.length_append,List.length_cons,List.length_nil];omega) (by unfold Fs;simp only[List.forall_mem_append,List.forall_mem_cons,hU,hT,hG,hK,true_and,and_true,List.not_mem_nil,false_imp_iff,implies_true])
  |false=>
   simp only[Aq,Ax]
   cases h5:(f.1==5)with
   |false=>
    simp only[Aq,Ax,Bool.not_false,Bool.not_true]
    refine⟨_,_,_,rfl,rfl,?_⟩;exact leaf (fi:=Du) (X:=ch) (t:=((false,0,0,0,()):Bg)) (r:=clR c) (.inl rfl) rfl zq0 hch' (.inl rfl) zq3 (by simp only[Ft,Dg,List.length_append,List.length_cons,List.length_nil];omega) (by unfold Fs;simp only[List.forall_mem_append,List.forall_mem_cons,hU,hT,hG,hK,true_and,and_true,List.not_mem_nil,false_imp_iff,implies_true])
   |true=>
    simp only[Aq,Ax,Bool.not_false,Bool.not_true]
    cases hz2:(z2==0)with
    |false=>
     simp only[Aq,Ax,Bool.not_false,Bool.not_true]
     refine⟨_,_,_,rfl,rfl,?_⟩;exact leaf (fi:=Du) (X:=ch) (t:=((false,0,0,0,()):Bg)) (r:=clR c) (.inl rfl) rfl zq0 hch' (.inl rfl) zq3 (by simp only[Ft,Dg,List.length_append,List.length_cons,List.length_nil];omega) (by unfold Fs;simp only[List.forall_mem_append,List.forall_mem_cons,hU,hT,hG,hK,true_and,and_true,List.not_mem_nil,false_imp_iff,implies_true])
    |true=>
     obtain⟨s1,s2,s3,s4,s5,s6,s7,s8,s9⟩:=hseal (by simpa using hz2)
     simp only[Aq,Ax,Bool.not_false,Bool.not_true,s1]
     refine⟨_,_,_,rfl,rfl,?_⟩;exact leaf (fi:=Du) (X:=y) (t:=((false,0,0,0,()):Bg)) (r:=clR c) (.inl rfl) (by rw[G1];rfl) zq0 (hcl y s2 (by rw[s3,P7,q2]) s4) (.inr ⟨rfl,s5⟩) zq3 (by simp only[Ft,Dg,List.length_append,List.length_cons,List.length_nil];omega) (by unfold Fs;simp only[List.forall_mem_append,List.forall_mem_cons,hU,hT,hG,hK,s6,s7,true_and,and_true,List.not_mem_nil,false_imp_iff,implies_true])
 ·obtain⟨_,a1,a2,a3,a4,a5,a6⟩:=A72 ho hs
  cases hNN:(ch.2.2.1==c.2.2.2.2.2.2.2.2.2.2.2.2.2.2.2.2.2.2.2.1)with
  |true=>
   have hN:ch.2.2.1=(Cw c).2.2.1∧Cy ch=Cy (Cw c):=by
    have hNe:ch.2.2.1=(Cw c).2.2.1:=by simpa using hNN
    rcases P11 with⟨x1,x2,_⟩|⟨x,_⟩
    ·exact⟨x1,x2⟩
    ·omega
   have hcl: ∀X:Af,Bw X=true→X.1=0→Cy X=Cy ch→Bk (Hp c 3 (Ez c) X (clT c) (clR c) n.1)=true:=fun X x1 x2 x3=>
    A5f ho q3 a1 x1 x2 a4 a5 (by rw[x3,hN.2];exact a6) P3
   have hch':=hcl ch P2 (by rw[P7,q2]) rfl
   simp only[hs,bne,hNN,show((3:Int)==2)=false by decide,Bool.not_true,Aq,Ax]
   cases h4:(f.1==4)with
   |true=>
    have h5:=e54 (by simpa using h4)
    simp only[h5,Aq,Ax,Bool.not_false]
    refine⟨_,_,_,rfl,rfl,?_⟩;exact leaf (fi:=Ez c) (X:=ch) (t:=clT c) (r:=clR c) (.inr rfl) rfl zq0 hch' (.inl rfl) zq3 (by simp only[Ft,Dg,List.length_append,List.length_cons,List.length_nil];omega) (by unfold Fs;simp only[List.forall_mem_append,List.forall_mem_cons,hU,hT,hG,hK,true_and,and_true,List.not_mem_nil,false_imp_iff,implies_true])
   |false=>
    simp only[Aq,Ax]
    cases h5:(f.1==5)with
    |false=>
     simp only[Aq,Ax,Bool.not_false,Bool.not_true]
     refine⟨_,_,_,rfl,rfl,?_⟩;exact leaf (fi:=Ez c) (X:=ch) (t:=clT c) (r:=clR c) (.inr rfl) rfl zq0 hch' (.inl rfl) zq3 (by simp only[Ft,Dg,List.length_append,List.length_cons,List.length_nil];omega) (by unfold Fs;simp only[List.forall_mem_append,List.forall_mem_cons,hU,hT,hG,hK,true_and,and_true,List.not_mem_nil,false_imp_iff,implies_true])
    |true=>
     simp only[Aq,Ax,Bool.not_false,Bool.not_true]
     cases hz2:(z2==0)with
     |false=>
      simp only[Aq,Ax,Bool.not_false,Bool.not_true]
      refine⟨_,_,_,rfl,rfl,?_⟩;exact leaf (fi:=Ez c) (X:=ch) (t:=clT c) (r:=clR c) (.inr rfl) rfl zq0 hch' (.inl rfl) zq3 (by simp only[Ft,Dg,List.length_append,List.length_cons,List.length_nil];omega) (by unfold Fs;simp only[List.forall_mem_append,List.forall_mem_cons,hU,hT,hG,hK,true_and,and_true,List.not_mem_nil,false_imp_iff,implies_true])
     |true=>
      obtain⟨s1,s2,s3,s4,s5,s6,s7,s8,s9⟩:=hseal (by simpa using hz2)
      simp only[Aq,Ax,Bool.not_false,Bool.not_true,s1]
      refine⟨_,_,_,rfl,rfl,?_⟩;exact leaf (fi:=Ez c) (X:=y) (t:=clT c) (r:=clR c) (.inr rfl) (by rw[G1];rfl) zq0 (hcl y s2 (by rw[s3,P7,q2]) s4) (.inr ⟨rfl,s5⟩) zq3 (by simp only[Ft,Dg,List.length_append,List.length_cons,List.length_nil];omega) (by unfold Fs;simp only[List.forall_mem_append,List.forall_mem_cons,hU,hT,hG,hK,s6,s7,true_and,and_true,List.not_mem_nil,false_imp_iff,implies_true])
  |false=>
   have hN:Cy ch=[]:=by
    have hNe:ch.2.2.1≠(Cw c).2.2.1:=by simpa using hNN
    rcases P11 with⟨x1,_⟩|⟨_,x,_⟩
    ·exact(hNe x1).elim
    ·exact x
   have hcl: ∀X:Af,Bw X=true→X.1=0→Cy X=Cy ch→Bk (Hp c 3 (Ez c) X (clT c) (false,0,0,0,()) n.1)=true:=fun X x1 x2 x3=>
    A5f ho q3 a1 x1 x2 a4 rfl (by rw[x3,hN];rfl) P3
   have hch':=hcl ch P2 (by rw[P7,q2]) rfl
   simp only[hs,bne,hNN,show((3:Int)==2)=false by decide,Bool.not_false,Aq,Ax]
   cases h4:(f.1==4)with
   |true=>
    have h5:=e54 (by simpa using h4)
    simp only[h5,Aq,Ax,Bool.not_false]
    refine⟨_,_,_,rfl,rfl,?_⟩;exact leaf (fi:=Ez c) (X:=ch) (t:=clT c) (r:=((false,0,0,0,()):Bg)) (.inr rfl) rfl zq0 hch' (.inl rfl) zq3 (by simp only[Ft,Dg,List.length_append,List.length_cons,List.length_nil];omega) (by unfold Fs;simp only[List.forall_mem_append,List.forall_mem_cons,hU,hT,hG,hK,true_and,and_true,List.not_mem_nil,false_imp_iff,implies_true])
   |false=>
    simp only[Aq,Ax]
    cases h5:(f.1==5)with
    |false=>
     simp only[Aq,Ax,Bool.not_false,Bool.not_true]
     refine⟨_,_,_,rfl,rfl,?_⟩;exact leaf (fi:=Ez c) (X:=ch) (t:=clT c) (r:=((false,0,0,0,()):Bg)) (.inr rfl) rfl zq0 hch' (.inl rfl) zq3 (by simp only[Ft,Dg,List.length_append,List.length_cons,List.length_nil];omega) (by unfold Fs;simp only[List.forall_mem_append,List.forall_mem_cons,hU,hT,hG,hK,true_and,and_true,List.not_mem_nil,false_imp_iff,implies_true])
    |true=>
     simp only[Aq,Ax,Bool.not_false,Bool.not_true]
     cases hz2:(z2==0)with
     |false=>
      simp only[Aq,Ax,Bool.not_false,Bool.not_true]
      refine⟨_,_,_,rfl,rfl,?_⟩;exact leaf (fi:=Ez c) (X:=ch) (t:=clT c) (r:=((false,0,0,0,()):Bg)) (.inr rfl) rfl zq0 hch' (.inl rfl) zq3 (by simp only[Ft,Dg,List.length_append,List.length_cons,List.length_nil];omega) (by unfold Fs;simp only[List.forall_mem_append,List.forall_mem_cons,hU,hT,hG,hK,true_and,and_true,List.not_mem_nil,false_imp_iff,implies_true])
     |true=>
      obtain⟨s1,s2,s3,s4,s5,s6,s7,s8,s9⟩:=hseal (by simpa using hz2)
      simp only[Aq,Ax,Bool.not_false,Bool.not_true,s1]
      refine⟨_,_,_,rfl,rfl,?_⟩;exact leaf (fi:=Ez c) (X:=y) (t:=clT c) (r:=((false,0,0,0,()):Bg)) (.inr rfl) (by rw[G1];rfl) zq0 (hcl y s2 (by rw[s3,P7,q2]) s4) (.inr ⟨rfl,s5⟩) zq3 (by simp only[Ft,Dg,List.length_append,List.length_cons,List.length_nil];omega) (by unfold Fs;simp only[List.forall_mem_append,List.forall_mem_cons,hU,hT,hG,hK,s6,s7,true_and,and_true,List.not_mem_nil,false_imp_iff,implies_true])
end
end Go.Proofs.YtjlblagmjlmglaaGreat

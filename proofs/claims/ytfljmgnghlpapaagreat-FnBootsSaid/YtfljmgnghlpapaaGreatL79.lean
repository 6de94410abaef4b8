/-
  That the program and the reference answer alike, in plain terms, and that the laws answer true.
-/
import Derived.Test.YtfljmgnghlpapaaGreatL78
namespace Go.Proofs.YtfljmgnghlpapaaGreat
open Go.RowKit
set_option linter.unusedVariables false
set_option linter.unusedSimpArgs false
set_option maxRecDepth 100000
set_option maxHeartbeats 4000000
noncomputable section
def TP (M K:Nat) (t:Bp):Prop:=t.2.1.length≤M∧ ∀x∈t.2.1,SP K x
theorem SP.le {K N:Nat} {s:Ad} (h:SP K s) (hk:K≤N):SP N s:=⟨Nat.le_trans h.1 hk,h.2⟩
theorem Bfp {l:List Ad} {K:Nat} (h: ∀x∈l,SP K x):Co Aw l≤l.length*K:=by
 induction l with
 |nil=>simp[Co]
 |cons a r ih=>
  have h1:=(h a zq3).1
  have h2:=ih (fun x hx=>h x (by simp[hx]))
  simp only[Co,List.length_cons,Nat.succ_mul];omega
theorem TP.need {M K:Nat} {t:Bp} (h:TP M K t):Bg t≤M+M*K:=by
 have h1:=Bfp h.2
 have h2:=Nat.mul_le_mul_right K h.1
 have h3:=h.1
 simp only[Bg];omega
theorem TP.le {M K M' K':Nat} {t:Bp} (h:TP M K t) (h1:M≤M') (h2:K≤K'):TP M' K' t:=⟨Nat.le_trans h.1 h1,fun x hx=>(h.2 x hx).le h2⟩
theorem Ari {l:List Ad} {i:Nat} {y x:Ad} (h:x∈l.set i y):x∈l∨x=y:=List.mem_or_eq_of_mem_set h
theorem Am4 {M K:Nat} (t:Bp) (s:Ad) (ht:TP M K t) (hs:SP K s) (hb:M+M*K+K≤1073741824):Tot (fun r=>TP (M+1) K r.1) (Ny t s):=by
 have hn:=ht.need
 have hs1:=hs.1
 obtain⟨r,b,e1,e2,_⟩:=A8f t s zq0
 obtain⟨⟨r',b',⟨⟩⟩,e3,h1,h2⟩:=Bhw t s zq0
 rw[e1]at e3
 simp only[Option.some.injEq,Prod.mk.injEq,and_true]at e3
 obtain⟨rfl,rfl⟩:=e3
 refine⟨_,e2,?_⟩
 by_cases hc:b=0
 ·obtain⟨_,_,_,_,_,_,e⟩:=h2 hc
  dsimp only at e ⊢
  subst e
  refine⟨by have:=ht.1;simp;omega,fun x hx=>?_⟩
  rcases List.mem_append.1 hx with hx|hx
  ·exact ht.2 x hx
  ·simp at hx;rw[hx];exact hs
 ·have e:r=t:=h1 hc
  subst e
  exact ht.le zq0 (Nat.le_refl _)
theorem A81 (n:YI):Tot (fun r=>r.2.1.length=0) (My n):=by
 obtain⟨r,_,e,h⟩:=Amm n
 refine⟨r,e,?_⟩
 simp only[Bg]at h;omega
theorem Apx {b:List YB} {a0:Aq} (hc:Bn b a0):Tot (fun r=>TP 6 20000 r.1∧Bn b r.2) (S2 a0):=by
 unfold S2 Ab3
 simp only[Ac,Ae,Ab,Al]
 refine Aj (A9 _ hc zq4) (fun r1 ⟨_,h1c⟩=>?_)
 refine Aj (A81 _) (fun r2 h2=>?_)
 refine Aj (A9 _ (Ag hc h1c) zq4) (fun r3 ⟨h3,h3c⟩=>?_)
 have h3b:0≤r3.1.1∧r3.1.1<6:=⟨h3.1,by rcases h3.2 with q|q<;>omega⟩
 refine Aj (Q:=fun o:(List YB)×Int×Int×Int×(List Ad)×Int×(List Ad)×Unit=>TP 6 20000 (o.2.2.2.2.2.1,o.2.2.2.2.2.2.1,())∧Bn b (o.1,o.2.1,o.2.2.1,())) ?_ (fun o ho=>Ah ⟨ho.1,ho.2⟩)
 refine Amz (fun i d=>d.1=r3.1.1-(i:Int)∧TP i 20000 (d.2.2.2.2.2.2.1,d.2.2.2.2.2.2.2.1,())∧d.2.1=a0.1∧Bn b (d.2.1,d.2.2.1,d.2.2.2.1,())) _ r3.1.1.toNat ?_ ?_ ⟨by omega,⟨by show r2.2.1.length≤0;omega,fun x hx=>by have:r2.2.1=[]:=List.eq_nil_of_length_eq_zero h2;rw[this]at hx;cases hx⟩,rfl,Ag hc h3c⟩
 ·rintro i ⟨n,c1,c2,c3,z,zl,cap,l,⟨⟩⟩ hi ⟨q1,q2,q3,q4⟩
  dsimp only at q1 q2 q3 q4
  subst q1 q3
  unfold Oe
  simp only[Ac,Ae,Ab,Al]
  rw[An zq0,A4]
  have hnext:IntKind.i64.wrap (r3.1.1-(i:Int)-1)=r3.1.1-((i+1:Nat):Int):=by rw[w64 zq0];omega
  refine Aj (Tc q4) (fun r5 ⟨h5,h5c⟩=>?_)
  have h5s:SP 20000 r5.1:=h5.le zq4
  refine Aj (Am4 (M:=i) (K:=20000) _ _ q2 h5s zq0) (fun r6 h6=>?_)
  refine Ar (fun hp=>?_) (fun _=>?_)
  ·simp only[decide_eq_true_eq]at hp
   refine Aj (Cr _ (Ag hc h5c) zq4) (fun r7 h7c=>?_)
   refine Ar (fun _=>?_) (fun _=>?_)
   ·have h6l:=h6.1
    refine Aj (A9 _ (Ag hc h7c) zq2) (fun r8 ⟨h8,h8c⟩=>?_)
    have h8b:0≤r8.1.1∧r8.1.1<(r6.1.2.1.length:Int):=⟨h8.1,by rcases h8.2 with q|q<;>(try dsimp only at q)<;>omega⟩
    refine Aj (D8 h8b.1 h8b.2 (fun x hx=>h6.2 x hx)) (fun e9 h9=>?_)
    refine Aj (T4 _ h9 zq4) (fun r10 h10=>?_)
    refine Aj (D8 h8b.1 h8b.2 (fun x hx=>h6.2 x hx)) (fun e11 h11=>?_)
    refine Ah ⟨_,rfl,hnext,⟨by simpa using h6.1,fun x hx=>?_⟩,rfl,Ag hc h8c⟩
    rcases Ari hx with hx|hx
    ·exact h6.2 x hx
    ·rw[hx];exact h10
   ·exact Ah ⟨_,rfl,hnext,h6,rfl,Ag hc h7c⟩
  ·exact Ah ⟨_,rfl,hnext,h6,rfl,Ag hc h5c⟩
 ·rintro⟨n,c1,c2,c3,z,zl,cap,l,⟨⟩⟩ ⟨q1,q2,q3,q4⟩
  dsimp only at q1 q2 q3 q4
  unfold Oe
  simp only[Ac,Ae,Ab,Al]
  rw[Bj zq0,Au]
  exact Ah ⟨_,rfl,q2.le zq0 (Nat.le_refl _),q4⟩
theorem Bhx {K N:Nat} {s:Ad} {v:List YB} (h:SP K s) (hv:v.length≤N) (hw:wfB v):SP (K+N) (s.1,s.2.1,v,s.2.2.2):=by
 obtain⟨s0,s1,s2,s3,s4,s5,s6,s7,s8,s9,s10,s11,s12,s13,s14,s15,s16,s17,s18,s19,s20,s21,s22,s23,⟨⟩⟩:=s
 obtain⟨h1,h2,h3⟩:=h
 refine⟨?_,hw,h3⟩
 simp only[Aw]at h1 ⊢
 omega
def Qw (s:Ad):Prop:=s.2.1.length+Bs (Fx s)+A1 (Ew s)≤4500∧wfB (Fx s).2.1
theorem Qw.of {s:Ad} (h:SP 4500 s):Qw s:=by
 obtain⟨h1,h2,h3⟩:=h
 rw[Ix]at h1
 exact⟨by omega,h3⟩
theorem Qw.same {i:Int} {cn sn v:List YB} {c0:Int} {c1:List YB} {c2:Int} {c3:List YB} {c4 c5:Int} {c6:List YI} {c7:Int} {c8:List YB} {c9 c10:Int} {c11:List YI} {c12:Bool} {c13:Int} {c14:List YB} {p0 p1:Int} {p2:List Ap} {t la:Int} {dd:Bool}
  (h:Qw (i,cn,sn,c0,c1,c2,c3,c4,c5,c6,c7,c8,c9,c10,c11,c12,c13,c14,p0,p1,p2,t,la,dd,())):Qw (i,cn,v,c0,c1,c2,c3,c4,c5,c6,c7,c8,c9,c10,c11,c12,c13,c14,p0,p1,p2,t,la,dd,()):=h
theorem Qw.sn {i:Int} {cn sn v:List YB} {c0:Int} {c1:List YB} {c2:Int} {c3:List YB} {c4 c5:Int} {c6:List YI} {c7:Int} {c8:List YB} {c9 c10:Int} {c11:List YI} {c12:Bool} {c13:Int} {c14:List YB} {p0 p1:Int} {p2:List Ap} {t la:Int} {dd:Bool}
  (h:Qw (i,cn,sn,c0,c1,c2,c3,c4,c5,c6,c7,c8,c9,c10,c11,c12,c13,c14,p0,p1,p2,t,la,dd,())) (hv:v.length≤12) (hw:wfB v):SP 4512 (i,cn,v,c0,c1,c2,c3,c4,c5,c6,c7,c8,c9,c10,c11,c12,c13,c14,p0,p1,p2,t,la,dd,()):=by
 obtain⟨h1,h2⟩:=h
 refine⟨?_,hw,h2⟩
 rw[Ix]
 simp only[Fx,Ew]at h1 ⊢
 omega
theorem A82 {b:List YB} {a0:Aq} (hc:Bn b a0):Tot (fun r=>TP 30 40000 r.1∧Bn b r.2) (Ahl a0):=by
 unfold Ahl Vb
 simp only[Ac,Ae,Ab,Al]
 refine Aj (Apx hc) (fun r1 ⟨h1,h1c⟩=>?_)
 have h1l:=h1.1
 have h1':TP 30 40000 r1.1:=h1.le zq4 zq4
 refine Aj (A9 _ (Ag hc h1c) zq4) (fun r2 ⟨_,h2c⟩=>?_)
 have h2c':=Ag hc h2c
 refine Ar (fun _=>?_) (fun _=>?_)
 ·exact Aj (Bv _ 0 7 h2c' zq4 zq4) (fun r3 ⟨_,h3c⟩=>Ah ⟨h1',Ag hc h3c⟩)
 refine Ar (fun _=>?_) (fun _=>?_)
 ·refine Aj (A8x h2c') (fun r4 ⟨h4,h4c⟩=>?_)
  refine Dh (An A73) (Ah ⟨⟨by simp;omega,fun x hx=>?_⟩,Ag hc h4c⟩)
  rcases List.mem_append.1 hx with hx|hx
  ·exact h1'.2 x hx
  ·simp at hx;rw[hx];exact h4.le zq4
 refine Ar (fun _=>?_) (fun _=>?_)
 ·refine Ar (fun hg=>?_) (fun _=>Ah ⟨h1',h2c'⟩)
  simp only[decide_eq_true_eq]at hg
  refine Aj (D8 zq4 zq0 (fun x hx=>h1.2 x hx)) (fun e5 h5=>?_)
  refine Aj (D8 zq4 zq0 (fun x hx=>h1.2 x hx)) (fun e6 h6=>?_)
  refine Ah ⟨⟨by simpa using h1'.1,fun x hx=>?_⟩,h2c'⟩
  rcases Ari hx with hx|hx
  ·exact h1'.2 x hx
  ·rw[hx]
   have h5l:=(Aib h5).2.1
   exact(Bhx h6 h5l h5.2.1).le zq4
 refine Ar (fun _=>?_) (fun _=>Ah ⟨h1',h2c'⟩)
 refine Aj (Tc h2c') (fun r8 ⟨h8,h8c⟩=>?_)
 refine Aj (T4 _ h8 zq4) (fun r9 h9=>?_)
 refine Aj (Bv _ 9 13 (Ag hc h8c) zq4 zq4) (fun r10 ⟨h10,h10c⟩=>?_)
 refine Aj (Q:=fun o:(List YB)×Int×Int×Int×(List Ad)×Int×(List Ad)×Unit=>TP 30 40000 (o.2.2.2.2.2.1,o.2.2.2.2.2.2.1,())∧Bn b (o.1,o.2.1,o.2.2.1,())) ?_ (fun o ho=>Ah ⟨ho.1,ho.2⟩)
 refine Qu (fun i d=>d.1=r10.1.1-(i:Int)∧TP (6+i) 40000 (d.2.2.2.2.2.2.1,d.2.2.2.2.2.2.2.1,())∧d.2.1=a0.1∧Bn b (d.2.1,d.2.2.1,d.2.2.2.1,())∧Qw d.2.2.2.2.2.2.2.2) _ 14 ?_ ⟨by omega,⟨h1.1,fun x hx=>(h1.2 x hx).le zq4⟩,rfl,Ag hc h10c,?_⟩
 ·rintro i ⟨n,c1,c2,c3,z,zl,cap,l,s0,s1,s2,s3,s4,s5,s6,s7,s8,s9,s10,s11,s12,s13,s14,s15,s16,s17,s18,s19,s20,s21,s22,s23,⟨⟩⟩ hi ⟨q1,q2,q3,q4,q5⟩
  dsimp only at q1 q2 q3 q4 q5
  subst q1 q3
  have hl:=q2.1
  dsimp only at hl
  unfold Oh
  simp only[Ac,Ae,Ab,Al]
  refine Ar (fun hg=>?_) (fun _=>?_)
  ·simp only[decide_eq_true_eq]at hg
   refine Aj (Cq _ q4 zq4) (fun r16 ⟨⟨h16,h16w⟩,h16c⟩=>?_)
   refine Dh (An A73) (Ah (.inl ⟨_,rfl,by omega,?_,⟨?_,fun x hx=>?_⟩,rfl,Ag hc h16c,?_⟩))
   ·dsimp only;rw[w64 zq0];omega
   ·simp;omega
   ·dsimp only at hx
    rcases List.mem_append.1 hx with hx|hx
    ·exact q2.2 x hx
    ·simp only[List.mem_singleton]at hx
     rw[hx]
     exact(Qw.sn (v:=r16.1.1) q5 (by dsimp only at h16;omega) h16w).le zq4
   ·exact Qw.same (v:=r16.1.1) q5
  ·exact Ah (.inr ⟨_,rfl,q2.le zq0 (Nat.le_refl _),q4⟩)
 ·exact Qw.of h9
end
end Go.Proofs.YtfljmgnghlpapaaGreat

/-
  That the program and the reference answer alike, in plain terms, and that the laws answer true.
-/
import Derived.Test.YtfljmgnghlpapaaGreatL78
namespace Go.Proofs.YtfljmgnghlpapaaGreat
open Go.RowKit
set_option linter.unusedVariables false
set_option linter.unusedSimpArgs false
set_option maxRecDepth 100000
set_option maxHeartbeats 4000000
noncomputable section
def TP (M K:Nat) (t:A7):Prop:=t.2.1.length≤M∧ ∀x∈t.2.1,SP K x
theorem SP.le {K N:Nat} {s:Af} (h:SP K s) (hk:K≤N):SP N s:=⟨Nat.le_trans h.1 hk,h.2⟩
theorem Ayv {l:List Af} {K:Nat} (h: ∀x∈l,SP K x):C4 Az l≤l.length*K:=by
 induction l with
 |nil=>simp[C4]
 |cons a r ih=>
  have h1:=(h a (by simp)).1
  have h2:=ih (fun x hx=>h x (by simp[hx]))
  simp only[C4,List.length_cons,Nat.succ_mul];omega
theorem TP.need {M K:Nat} {t:A7} (h:TP M K t):A3 t≤M+M*K:=by
 have h1:=Ayv h.2
 have h2:=Nat.mul_le_mul_right K h.1
 have h3:=h.1
 simp only[A3];omega
theorem TP.le {M K M' K':Nat} {t:A7} (h:TP M K t) (h1:M≤M') (h2:K≤K'):TP M' K' t:=⟨Nat.le_trans h.1 h1,fun x hx=>(h.2 x hx).le h2⟩
theorem Aom {l:List Af} {i:Nat} {y x:Af} (h:x∈l.set i y):x∈l∨x=y:=List.mem_or_eq_of_mem_set h
theorem Aon {M K:Nat} (t:A7) (s:Af) (ht:TP M K t) (hs:SP K s) (hb:M+M*K+K≤1073741824):Tot (fun r=>TP (M+1) K r.1) (Ka t s):=by
 have hn:=ht.need
 have hs1:=hs.1
 obtain⟨r,b,e1,e2,_⟩:=Ah5 t s zq0
 obtain⟨⟨r',b',⟨⟩⟩,e3,h1,h2⟩:=Ax6 t s zq0
 rw[e1]at e3
 simp only[Option.some.injEq,Prod.mk.injEq,and_true]at e3
 obtain⟨rfl,rfl⟩:=e3
 refine⟨_,e2,?_⟩
 by_cases hc:b=0
 ·obtain⟨_,_,_,_,_,_,e⟩:=h2 hc
  dsimp only at e ⊢
  subst e
  refine⟨by have:=ht.1;simp;omega,fun x hx=>?_⟩
  rcases List.mem_append.1 hx with hx|hx
  ·exact ht.2 x hx
  ·simp at hx;rw[hx];exact hs
 ·have e:r=t:=h1 hc
  subst e
  exact ht.le zq0 (Nat.le_refl _)
theorem Atj (n:YI):Tot (fun r=>r.2.1.length=0) (Py n):=by
 obtain⟨r,_,e,h⟩:=Auo n
 refine⟨r,e,?_⟩
 simp only[A3]at h;omega
theorem Aqw {b:List YB} {a0:Ap} (hc:Bw b a0):Tot (fun r=>TP 6 20000 r.1∧Bw b r.2) (U2 a0):=by
 unfold U2 Um
 simp only[Ah,Ai,Ab,Am]
 refine Ag (Ba _ hc zq3) (fun r1 ⟨_,h1c⟩=>?_)
 refine Ag (Atj _) (fun r2 h2=>?_)
 refine Ag (Ba _ (Ad hc h1c) zq3) (fun r3 ⟨h3,h3c⟩=>?_)
 have h3b:0≤r3.1.1∧r3.1.1<6:=⟨h3.1,by rcases h3.2 with q|q<;>omega⟩
 refine Ag (Q:=fun o:(List YB)×Int×Int×Int×(List Af)×Int×(List Af)×Unit=>TP 6 20000 (o.2.2.2.2.2.1,o.2.2.2.2.2.2.1,())∧Bw b (o.1,o.2.1,o.2.2.1,())) ?_ (fun o ho=>Ae ⟨ho.1,ho.2⟩)
 refine Au8 (fun i d=>d.1=r3.1.1-(i:Int)∧TP i 20000 (d.2.2.2.2.2.2.1,d.2.2.2.2.2.2.2.1,())∧d.2.1=a0.1∧Bw b (d.2.1,d.2.2.1,d.2.2.2.1,())) _ r3.1.1.toNat ?_ ?_ ⟨by omega,⟨by show r2.2.1.length≤0;omega,fun x hx=>by have:r2.2.1=[]:=List.eq_nil_of_length_eq_zero h2;rw[this]at hx;cases hx⟩,rfl,Ad hc h3c⟩
 ·rintro i ⟨n,c1,c2,c3,z,zl,cap,l,⟨⟩⟩ hi ⟨q1,q2,q3,q4⟩
  dsimp only at q1 q2 q3 q4
  subst q1 q3
  unfold Km
  simp only[Ah,Ai,Ab,Am]
  rw[Ao zq0,A9]
  have hnext:IntKind.i64.wrap (r3.1.1-(i:Int)-1)=r3.1.1-((i+1:Nat):Int):=by rw[w64 zq0];omega
  refine Ag (Vb q4) (fun r5 ⟨h5,h5c⟩=>?_)
  have h5s:SP 20000 r5.1:=h5.le zq3
  refine Ag (Aon (M:=i) (K:=20000) _ _ q2 h5s zq0) (fun r6 h6=>?_)
  refine An (fun hp=>?_) (fun _=>?_)
  ·simp only[decide_eq_true_eq]at hp
   refine Ag (Bz _ (Ad hc h5c) zq3) (fun r7 h7c=>?_)
   refine An (fun _=>?_) (fun _=>?_)
   ·have h6l:=h6.1
    refine Ag (Ba _ (Ad hc h7c) zq2) (fun r8 ⟨h8,h8c⟩=>?_)
    have h8b:0≤r8.1.1∧r8.1.1<(r6.1.2.1.length:Int):=⟨h8.1,by rcases h8.2 with q|q<;>(try dsimp only at q)<;>omega⟩
    refine Ag (Gc h8b.1 h8b.2 (fun x hx=>h6.2 x hx)) (fun e9 h9=>?_)
    refine Ag (Oy _ h9 zq3) (fun r10 h10=>?_)
    refine Ag (Gc h8b.1 h8b.2 (fun x hx=>h6.2 x hx)) (fun e11 h11=>?_)
    refine Ae ⟨_,rfl,hnext,⟨by simpa using h6.1,fun x hx=>?_⟩,rfl,Ad hc h8c⟩
    rcases Aom hx with hx|hx
    ·exact h6.2 x hx
    ·rw[hx];exact h10
   ·exact Ae ⟨_,rfl,hnext,h6,rfl,Ad hc h7c⟩
  ·exact Ae ⟨_,rfl,hnext,h6,rfl,Ad hc h5c⟩
 ·rintro⟨n,c1,c2,c3,z,zl,cap,l,⟨⟩⟩ ⟨q1,q2,q3,q4⟩
  dsimp only at q1 q2 q3 q4
  unfold Km
  simp only[Ah,Ai,Ab,Am]
  rw[Bn zq0,A1]
  exact Ae ⟨_,rfl,q2.le zq0 (Nat.le_refl _),q4⟩
theorem A0o {K N:Nat} {s:Af} {v:List YB} (h:SP K s) (hv:v.length≤N) (hw:wfB v):SP (K+N) (s.1,s.2.1,v,s.2.2.2):=by
 obtain⟨s0,s1,s2,s3,s4,s5,s6,s7,s8,s9,s10,s11,s12,s13,s14,s15,s16,s17,s18,s19,s20,s21,s22,s23,⟨⟩⟩:=s
 obtain⟨h1,h2,h3⟩:=h
 refine⟨?_,hw,h3⟩
 simp only[Az]at h1 ⊢
 omega
def Mo (s:Af):Prop:=s.2.1.length+Bf (Ek s)+Av (Dq s)≤4500∧wfB (Ek s).2.1
theorem Mo.of {s:Af} (h:SP 4500 s):Mo s:=by
 obtain⟨h1,h2,h3⟩:=h
 rw[Gl]at h1
 exact⟨by omega,h3⟩
theorem Mo.same {i:Int} {cn sn v:List YB} {c0:Int} {c1:List YB} {c2:Int} {c3:List YB} {c4 c5:Int} {c6:List YI} {c7:Int} {c8:List YB} {c9 c10:Int} {c11:List YI} {c12:Bool} {c13:Int} {c14:List YB} {p0 p1:Int} {p2:List Aj} {t la:Int} {dd:Bool}
  (h:Mo (i,cn,sn,c0,c1,c2,c3,c4,c5,c6,c7,c8,c9,c10,c11,c12,c13,c14,p0,p1,p2,t,la,dd,())):Mo (i,cn,v,c0,c1,c2,c3,c4,c5,c6,c7,c8,c9,c10,c11,c12,c13,c14,p0,p1,p2,t,la,dd,()):=h
theorem Mo.sn {i:Int} {cn sn v:List YB} {c0:Int} {c1:List YB} {c2:Int} {c3:List YB} {c4 c5:Int} {c6:List YI} {c7:Int} {c8:List YB} {c9 c10:Int} {c11:List YI} {c12:Bool} {c13:Int} {c14:List YB} {p0 p1:Int} {p2:List Aj} {t la:Int} {dd:Bool}
  (h:Mo (i,cn,sn,c0,c1,c2,c3,c4,c5,c6,c7,c8,c9,c10,c11,c12,c13,c14,p0,p1,p2,t,la,dd,())) (hv:v.length≤12) (hw:wfB v):SP 4512 (i,cn,v,c0,c1,c2,c3,c4,c5,c6,c7,c8,c9,c10,c11,c12,c13,c14,p0,p1,p2,t,la,dd,()):=by
 obtain⟨h1,h2⟩:=h
 refine⟨?_,hw,h2⟩
 rw[Gl]
 simp only[Ek,Dq]at h1 ⊢
 omega
theorem Zd {b:List YB} {a0:Ap} (hc:Bw b a0):Tot (fun r=>TP 30 40000 r.1∧Bw b r.2) (L8 a0):=by
 unfold L8 Pu
 simp only[Ah,Ai,Ab,Am]
 refine Ag (Aqw hc) (fun r1 ⟨h1,h1c⟩=>?_)
 have h1l:=h1.1
 have h1':TP 30 40000 r1.1:=h1.le zq3 zq3
 refine Ag (Ba _ (Ad hc h1c) zq3) (fun r2 ⟨_,h2c⟩=>?_)
 have h2c':=Ad hc h2c
 refine An (fun _=>?_) (fun _=>?_)
 ·exact Ag (Bh _ 0 7 h2c' zq3 zq3) (fun r3 ⟨_,h3c⟩=>Ae ⟨h1',Ad hc h3c⟩)
 refine An (fun _=>?_) (fun _=>?_)
 ·refine Ag (Zc h2c') (fun r4 ⟨h4,h4c⟩=>?_)
  refine Dr (Ao zq7) (Ae ⟨⟨by simp;omega,fun x hx=>?_⟩,Ad hc h4c⟩)
  rcases List.mem_append.1 hx with hx|hx
  ·exact h1'.2 x hx
  ·simp at hx;rw[hx];exact h4.le zq3
 refine An (fun _=>?_) (fun _=>?_)
 ·refine An (fun hg=>?_) (fun _=>Ae ⟨h1',h2c'⟩)
  simp only[decide_eq_true_eq]at hg
  refine Ag (Gc zq3 zq0 (fun x hx=>h1.2 x hx)) (fun e5 h5=>?_)
  refine Ag (Gc zq3 zq0 (fun x hx=>h1.2 x hx)) (fun e6 h6=>?_)
  refine Ae ⟨⟨by simpa using h1'.1,fun x hx=>?_⟩,h2c'⟩
  rcases Aom hx with hx|hx
  ·exact h1'.2 x hx
  ·rw[hx]
   have h5l:=(Zb h5).2.1
   exact(A0o h6 h5l h5.2.1).le zq3
 refine An (fun _=>?_) (fun _=>Ae ⟨h1',h2c'⟩)
 refine Ag (Vb h2c') (fun r8 ⟨h8,h8c⟩=>?_)
 refine Ag (Oy _ h8 zq3) (fun r9 h9=>?_)
 refine Ag (Bh _ 9 13 (Ad hc h8c) zq3 zq3) (fun r10 ⟨h10,h10c⟩=>?_)
 refine Ag (Q:=fun o:(List YB)×Int×Int×Int×(List Af)×Int×(List Af)×Unit=>TP 30 40000 (o.2.2.2.2.2.1,o.2.2.2.2.2.2.1,())∧Bw b (o.1,o.2.1,o.2.2.1,())) ?_ (fun o ho=>Ae ⟨ho.1,ho.2⟩)
 refine Mn (fun i d=>d.1=r10.1.1-(i:Int)∧TP (6+i) 40000 (d.2.2.2.2.2.2.1,d.2.2.2.2.2.2.2.1,())∧d.2.1=a0.1∧Bw b (d.2.1,d.2.2.1,d.2.2.2.1,())∧Mo d.2.2.2.2.2.2.2.2) _ 14 ?_ ⟨by omega,⟨h1.1,fun x hx=>(h1.2 x hx).le zq3⟩,rfl,Ad hc h10c,?_⟩
 ·rintro i ⟨n,c1,c2,c3,z,zl,cap,l,s0,s1,s2,s3,s4,s5,s6,s7,s8,s9,s10,s11,s12,s13,s14,s15,s16,s17,s18,s19,s20,s21,s22,s23,⟨⟩⟩ hi ⟨q1,q2,q3,q4,q5⟩
  dsimp only at q1 q2 q3 q4 q5
  subst q1 q3
  have hl:=q2.1
  dsimp only at hl
  unfold Kn
  simp only[Ah,Ai,Ab,Am]
  refine An (fun hg=>?_) (fun _=>?_)
  ·simp only[decide_eq_true_eq]at hg
   refine Ag (Ch _ q4 zq3) (fun r16 ⟨⟨h16,h16w⟩,h16c⟩=>?_)
   refine Dr (Ao zq7) (Ae (.inl ⟨_,rfl,by omega,?_,⟨?_,fun x hx=>?_⟩,rfl,Ad hc h16c,?_⟩))
   ·dsimp only;rw[w64 zq0];omega
   ·simp;omega
   ·dsimp only at hx
    rcases List.mem_append.1 hx with hx|hx
    ·exact q2.2 x hx
    ·simp only[List.mem_singleton]at hx
     rw[hx]
     exact(Mo.sn (v:=r16.1.1) q5 (by dsimp only at h16;omega) h16w).le zq3
   ·exact Mo.same (v:=r16.1.1) q5
  ·exact Ae (.inr ⟨_,rfl,q2.le zq0 (Nat.le_refl _),q4⟩)
 ·exact Mo.of h9
theorem Aib (a0:YBs) (hl:a0.1.length≤1048576):Tot (fun r=>TP 30 40000 r.1∧SP 40000 r.2) (L9 a0):=by
 unfold L9 Lu
 simp only[Ah,Ai,Ab,Am]
 refine Ag (Acx a0 hl) (fun r1 hc=>?_)
 refine Ag (Zd hc) (fun r2 ⟨h2,h2c⟩=>?_)
 refine Ag (Zc (Ad hc h2c)) (fun r3 ⟨h3,h3c⟩=>?_)
 have h3':SP 40000 r3.1:=h3.le zq3
 refine An (fun hg=>?_) (fun _=>Ae ⟨h2,h3'⟩)
 simp only[decide_eq_true_eq]at hg
 refine Ag (Bz _ (Ad hc h3c) zq3) (fun r4 h4c=>?_)
 refine An (fun _=>?_) (fun _=>Ae ⟨h2,h3'⟩)
 have h2l:=h2.1
 refine Ag (Ba _ (Ad hc h4c) zq2) (fun r5 ⟨h5,h5c⟩=>?_)
 have h5b:0≤r5.1.1∧r5.1.1<(r2.1.2.1.length:Int):=⟨h5.1,by rcases h5.2 with q|q<;>(try dsimp only at q)<;>omega⟩
 exact Ag (Gc h5b.1 h5b.2 (fun x hx=>h2.2 x hx)) (fun e6 h6=>Ae ⟨h2,h6⟩)
theorem Aic (a0:YBs) (hl:a0.1.length≤1048576):Tot (fun r=>TP 30 40000 r.1) (Md a0):=by
 unfold Md Lx
 simp only[Ah,Ai,Ab,Am]
 refine Ag (Acx a0 hl) (fun r1 hc=>?_)
 refine Ag (Zd hc) (fun r2 ⟨h2,h2c⟩=>?_)
 exact Ag (Bh _ (-1) 1000001 (Ad hc h2c) zq3 zq3) (fun r3 _=>Ae h2)
theorem Aid (a0:YBs) (hl:a0.1.length≤1048576):Tot (fun r=>TP 30 40000 r.1∧SP 40000 r.2.2) (Mf a0):=by
 unfold Mf L0
 simp only[Ah,Ai,Ab,Am]
 refine Ag (Acx a0 hl) (fun r1 hc=>?_)
 refine Ag (Zd hc) (fun r2 ⟨h2,h2c⟩=>?_)
 have h2l:=h2.1
 refine Ag (Ba _ (Ad hc h2c) (by dsimp only;rw[w64 zq0];omega)) (fun r3 ⟨h3,h3c⟩=>?_)
 refine Ag (Zc (Ad hc h3c)) (fun r4 ⟨h4,h4c⟩=>?_)
 have h4':SP 40000 r4.1:=h4.le zq3
 refine An (fun hg=>?_) (fun _=>Ae ⟨h2,h4'⟩)
 refine An (fun hg2=>?_) (fun _=>Ae ⟨h2,h4'⟩)
 refine Ag (Bz _ (Ad hc h4c) zq3) (fun r5 h5c=>?_)
 refine An (fun _=>?_) (fun _=>Ae ⟨h2,h4'⟩)
 simp only[decide_eq_true_eq]at hg hg2
 refine Ag (Gc hg hg2 (fun x hx=>h2.2 x hx)) (fun e6 h6=>?_)
 exact Ag (Oy _ h6 zq3) (fun r7 h7=>Ae ⟨h2,h7⟩)
theorem Atk (a:YBs):Aci a=some (true,()):=by
 unfold Aci Ir
 simp only[Ai,Ah,Ab]
 rw[show Arc a=some (decide ((a.1.length:Int)>(1048576:Int)),())from rfl,Ak]
 by_cases hb:(a.1.length:Int)>1048576
 ·rw[Ao hb,A9]
 rw[Bn hb,A1]
 obtain⟨⟨t,s⟩,e1,h1,h1s⟩:=Aib a zq0
 obtain⟨⟨u,n⟩,e2,h2⟩:=Aic a zq0
 obtain⟨⟨v,i,r⟩,e3,h3,h3s⟩:=Aid a zq0
 dsimp only at h1 h1s h2 h3 h3s
 have n1:=h1.need
 have n2:=h2.need
 have n3:=h3.need
 have n4:=h1s.1
 have n5:=h3s.1
 have l1:=h1.1
 have l2:=h2.1
 have l3:=h3.1
 rw[e1,Ak]
 dsimp only
 obtain⟨x,co,a1,a2,a3⟩:=Ah5 t s zq0
 obtain⟨q1,b1,b2⟩:=Ax6 t s zq0
 rw[a1]at b1
 cases b1
 obtain⟨z,ok,c1,c2,c3⟩:=Asz v i r zq0
 obtain⟨q2,d1,d2⟩:=A0n v i r zq0
 rw[c1]at d1
 cases d1
 dsimp only at b2 d2
 rw[a1,a2,e2]
 simp only[Ak]
 rw[Avh u n zq0,e3]
 simp only[Ak]
 rw[c1,c2]
 simp only[Ak,bne_self_eq_false,beq_self_eq_true,Bool.not_true,A1]
 rw[Gb t zq0,Ado t zq0]
 simp only[Ak,beq_self_eq_true,Bool.not_true,A1]
 have hlive:Aq t=some (Dy t,()):=Rx t zq0
 have last:(br (!Ec t) (some (true,())) (ob (Aq t) fun r27=>br (decide (r27.1<t.1)) (some (true,())) (some ((co != (0:Int)),()))))=some (true,()):=by
  rw[hlive,Ak]
  by_cases hc:co=0
  ·have:=(Avg zq0 b2 hc).2.2.2
   rw[Ao this,A9]
   cases Ec t<;>rfl
  ·have hne:(co != (0:Int))=true:=by simpa using hc
   rw[hne]
   cases Ec t<;>cases decide (Dy t<t.1)<;>rfl
 have htick: ∀y:Option (Bool×Unit),y=some (true,())→ob (Al u) (fun r38=>br r38.1 (ob (Al (Jo u n)) fun r39=>br (!r39.1) (some (false,())) (ob (Aq (Jo u n)) fun r40=>ob (Aq u) fun r41=>br (decide (r40.1>r41.1)) (some (false,())) y)) y)=some (true,()):=fun y hy=>by
  have hn:=Ati u n zq0
  have hln:(Jo u n).2.1.length≤A3 (Jo u n):=by simp only[A3];omega
  rw[Gb u zq0,Ak,Gb (Jo u n) zq0,Rx (Jo u n) zq0,Rx u zq0]
  simp only[Ak]
  cases ho:Ec u with
  |false=>rw[A1];exact hy
  |true=>
   obtain⟨k1,k2⟩:=Aw5 (n:=n) zq0 ho
   rw[A9,k1]
   simp only[Bool.not_true,A1]
   rw[Bn zq0,A1];exact hy
 have hput: ∀y:Option (Bool×Unit),y=some (true,())→br ok (ob (Al z) fun r36=>br (!r36.1) (some (false,())) (ob (Cg z (r.2.2.1,())) fun r37=>br (r37.1 != i.1) (some (false,())) y)) y=some (true,()):=fun y hy=>by
  cases hok:ok with
  |false=>rw[A1];exact hy
  |true=>
   obtain⟨k1,k2⟩:=Azs zq0 d2 hok
   have hzl:z.2.1.length≤A3 z:=by simp only[A3];omega
   rw[A9,Gb z zq0,Ak,k1,Rw z _ zq0,Ak,k2]
   simp only[Bool.not_true,A1,bne_self_eq_false]
   exact hy
 have hadd: ∀y:Option (Bool×Unit),y=some (true,())→br (co==(0:Int)) (ob (Al x) fun r14=>br (!r14.1) (some (false,())) (ob (Aq x) fun r15=>ob (Aq t) fun r16=>br (r15.1 != (IntKind.i64.wrap (r16.1+(1:Int)))) (some (false,())) (ob (Cg x (s.2.2.1,())) fun r17=>br (r17.1 != (t.2.1.length:Int)) (some (false,())) y))) y=some (true,()):=fun y hy=>by
  by_cases hc:co=0
  ·obtain⟨k1,k2,k3,k4⟩:=Avg zq0 b2 hc
   have hxl:x.2.1.length≤A3 x:=by simp only[A3];omega
   have hlb:Dy t=(Dl t.2.1:Int):=Jl t zq0
   have hlc:Dl t.2.1≤t.2.1.length:=Aw0
   rw[Gb x zq0,Rx x zq0,hlive,Rw x _ zq0]
   simp only[Ak,k1,k3,Bool.not_true,A1]
   rw[k2,w64 zq0]
   simp only[bne_self_eq_false,A1,hc,beq_self_eq_true,A9]
   exact hy
  ·have:(co==(0:Int))=false:=by simpa using hc
   rw[this,A1];exact hy
 have hmid: ∀y:Option (Bool×Unit),y=some (true,())→br (!ok) (ob (Gv z v) fun r13=>br (!r13.1) (some (false,())) y) y=some (true,()):=fun y hy=>by
  cases hok:ok with
  |true=>simp only[Bool.not_true,A1];exact hy
  |false=>
   have:z=v:=d2.1 hok
   subst this
   rw[Acz z zq0]
   simp only[Bool.not_false,A9,Ak,Bool.not_true,A1];exact hy
 have hall:=hadd _ (hput _ (htick _ last))
 have hfirst: ∀y:Option (Bool×Unit),y=some (true,())→br (co != (0:Int)) (ob (Gv x t) fun r12=>br (!r12.1) (some (false,())) y) y=some (true,()):=fun y hy=>by
  by_cases hc:co=0
  ·subst hc;simp only[bne_self_eq_false,A1];exact hy
  ·have:x=t:=b2.1 hc
   subst this
   have hne:(co != (0:Int))=true:=by simpa using hc
   rw[Acz x zq0,hne]
   simp only[A9,Ak,Bool.not_true,A1];exact hy
 exact hfirst _ (hmid _ hall)
end
end Go.Proofs.YtfljmgnghlpapaaGreat

/-
  That the program and the reference answer alike, in plain terms, and that the laws answer true.
-/
import Derived.Test.YthccfdmiejmbaaaGreatG3
namespace Go.Proofs.YthccfdmiejmbaaaGreat
open Go.RowKit
set_option linter.unusedVariables false
set_option linter.unusedSimpArgs false
set_option maxRecDepth 100000
set_option maxHeartbeats 16000000
noncomputable section
theorem Br5 {c:Au} {k:Int} {p:List YB} {c':Au} {f:Ap} (h:ChS c k p c' f 0):Cz c'=true/\c'.1=c.1/\Na c'=Na c/\Bu f=true/\L6 (Hd c' f)=true/\A9 c'=A9 c/\Av f<=A9 c+p.length+32/\f.2.2.2.1=c.2.1:=by
 obtain⟨e',G1,q2,q3,q4,q5⟩:=h
 obtain⟨w1,w2,w3,w4,w5,w6⟩:=q5 rfl
 have s3:=Ab3 w6
 rw[<-w5]at s3
 exact⟨w2,by rw[G1];rfl,by rw[G1];rfl,s3,Aus w2,q2,q3,by rw[w5];exact Brp w6⟩
def Bw9 (a b:Al):Prop:=Cv a.2.2.1 b.2.2.1=false
theorem Bln {l:List Al}:Ee (Lm l) l=true↔(∀x∈l,Dk x=true)/\l.Pairwise Bw9:=by
 have hq: ∀(i:Nat) (x:Al),l[i]? =some x->(Lm l i x=false↔Dk x=true/\Ee (fun _ (y:Al)=>Cv y.2.2.1 x.2.2.1) (l.take i)=true):=fun i x hx=>by
  unfold Lm Es
  rw[A08 (q:=fun y:Al=>Cv y.2.2.1 x.2.2.1) hx (Nb _)]
  simp only[Bool.not_not,Bool.not_eq_false',Bool.and_eq_true]
 rw[H0,List.pairwise_iff_getElem]
 constructor
 .intro h
  refine⟨fun x hx=>?_,fun i j hi hj hij=>?_⟩
  .obtain⟨j,hj⟩:=List.getElem?_of_mem hx
   exact((hq j x hj).1 (h j x hj)).1
  .have h1:=((hq j l[j] (List.getElem?_eq_getElem hj)).1 (h j l[j] (List.getElem?_eq_getElem hj))).2
   rw[H0]at h1
   exact h1 i l[i] (by rw[List.getElem?_take,if_pos hij];exact List.getElem?_eq_getElem hi)
 .rintro⟨h1,h2⟩ j x hj
  refine(hq j x hj).2 ⟨h1 x (List.mem_of_getElem? hj),H0.2 fun i y hi=>?_⟩
  rw[List.getElem?_take]at hi
  split at hi
  .rename_i hlt
   obtain⟨k1,k2⟩:=List.getElem?_eq_some_iff.1 hi
   obtain⟨k3,k4⟩:=List.getElem?_eq_some_iff.1 hj
   have:=h2 i j k1 k3 hlt
   rw[k2,k4]at this
   exact this
  .cases hi
theorem Xe {c:Int} {l:List Al} (hl:l.length<=4294967296):Je (c,l,())=true↔(1<=c/\c<=6)/\l.length<=12/\(Fx l:Int)<=c/\(∀x∈l,Dk x=true)/\l.Pairwise Bw9:=by
 unfold Je
 rw[Kw (c,l,()) hl]
 simp only[Bool.and_eq_true,Bool.not_eq_true',decide_eq_false_iff_not,Bx,Bln]
 constructor
 .rintro⟨h1,h2,h3,h4⟩;exact⟨h1,by omega,by omega,h4⟩
 .rintro⟨h1,h2,h3,h4⟩;exact⟨h1,by omega,by omega,h4⟩
theorem Blo {l:List Al} {s:List YB} (h:Es l s<0): ∀x∈l,Cv x.2.2.1 s=false:=fun x hx=>by
 obtain⟨i,hi⟩:=List.getElem?_of_mem hx
 cases hs:Cv x.2.2.1 s with
 |false=>rfl
 |true=>
  have:=(Agq (q:=fun y:Al=>Cv y.2.2.1 s) hi hs).1
  unfold Es at h
  omega
theorem Br6 {l:List Al} {i:Nat} {x:Al} {s:List YB} (hx:l[i]? =some x) (hs:Cv x.2.2.1 s=true) (hb: ∀j y,j<i->l[j]? =some y->Cv y.2.2.1 s=false):Es l s=(i:Int):=by
 have h1:=Agq (q:=fun y:Al=>Cv y.2.2.1 s) hx hs
 have h2:=A08 (q:=fun y:Al=>Cv y.2.2.1 s) hx hs
 have h3:Ee (fun _ (y:Al)=>Cv y.2.2.1 s) (l.take i)=true:=H0.2 fun j y hj=>by
  rw[List.getElem?_take]at hj
  split at hj
  .rename_i hlt;exact hb j y hlt hj
  .cases hj
 rw[h3]at h2
 simp only[Bool.not_true,decide_eq_false_iff_not]at h2
 unfold Es
 omega
theorem Bo4 {l:List Al} {x:Al}:Fx (l++[x])=Fx l+(if Dd x=true then 0 else 1):=by
 unfold Fx
 rw[List.countP_append]
 cases h:Dd x<;>simp[List.countP_cons,h]
def Btz (t:Ck) (s:Al) (x:Ck) (co:Int):Prop:=
 (co≠0->x=t)/\(co=0->Je t=true/\Dk s=true/\Dd s=false/\Es t.2.1 s.2.2.1<0/\E0 t≠t.1/\t.2.1.length≠12/\x=(t.1,t.2.1++[s],()))
theorem Bo5 (t:Ck) (s:Al) (h:Cf t+A5 s<=1073741824):Tot (fun r=>Btz t s r.1 r.2.1) (Vg t s):=by
 have hl:t.2.1.length<=Cf t:=by simp only[Cf];omega
 unfold Vg Ac0
 simp only[Af,Ah,Aa,Ak]
 rw[Akv t zq0,Ac,Apg t zq0,Ac,Wr s zq0,Pt t _ zq0,Bhj t zq0,Nd s zq0]
 simp only[Ac]
 have no: ∀c:Int,c≠0->Tot (fun r:Ck×YI=>Btz t s r.1 r.2.1) (some (t,(c,()))):=fun c hc=>Ag ⟨fun _=>rfl,fun h=>(hc h).elim⟩
 refine Am (fun _=>no 1 zq7) fun h1=>Am (fun _=>no 1 zq7) fun h2=>Am (fun _=>no 1 zq7) fun h3=>Am (fun _=>no 3 zq7) fun h4=>Am (fun _=>no 7 zq7) fun h5=>Am (fun _=>no 7 zq7) fun h6=>?_
 refine Dy zq1 (Ag ⟨fun h=>(h rfl).elim,fun _=>?_⟩)
 simp only[Bool.not_eq_false',decide_eq_false_iff_not]at h1 h2 h4
 refine⟨h1,h2,h3,by omega,by simpa using h5,?_,rfl⟩
 intro e
 rw[e]at h6
 simp at h6
theorem Br7 {t:Ck} {s:Al} {x:Ck} {co:Int} (hl:t.2.1.length<=4294967296) (h:Btz t s x co) (hc:co=0):Je x=true/\E0 x=E0 t+1/\Es x.2.1 s.2.2.1=(t.2.1.length:Int)/\E0 t<t.1:=by
 obtain⟨h1,h2,h3,h4,h5,h6,rfl⟩:=h.2 hc
 obtain⟨c,l,⟨⟩⟩:=t
 dsimp only at hl h1 h4 h5 h6 ⊢
 obtain⟨q1,q2,q3,q4,q5⟩:=(Xe hl).1 h1
 have hl2:(l++[s]).length<=4294967296:=by simp;omega
 have e1:E0 (c,l,())=((Fx l:Nat):Int):=Kw (c,l,()) hl
 have e2:E0 (c,l++[s],())=((Fx (l++[s]):Nat):Int):=Kw (c,l++[s],()) hl2
 have h5:E0 (c,l,())≠c:=h5
 have e3:Fx (l++[s])=Fx l+1:=by rw[Bo4,h3];rfl
 have hnone:=Blo h4
 refine⟨(Xe hl2).2 ⟨q1,by simp;omega,by rw[e3];omega,fun x hx=>?_,?_⟩,(show E0 (c,l++[s],())=E0 (c,l,())+1 by rw[e1,e2,e3];omega),?_,(show E0 (c,l,())<c by rw[e1]at h5 ⊢;omega)⟩
 .rcases List.mem_append.1 hx with hx|hx
  .exact q4 x hx
  .simp at hx;rw[hx];exact h2
 .refine List.pairwise_append.2 ⟨q5,List.pairwise_singleton _ _,fun a ha b hb=>?_⟩
  simp at hb;subst hb
  exact hnone a ha
 .refine Br6 (x:=s) zq3 (Nb _) fun j y hj hy=>?_
  rw[List.getElem?_append_left hj]at hy
  exact hnone y (List.mem_of_getElem? hy)
theorem Bt0 {s:Al} {c:Au} {p:Bn} (h:Dk s=true) (hd:Dd s=false) (hc:Cz c=true) (h1:c.1=(Cj s).1) (h2:c.2.1=(Cj s).2.1) (hp:E8 p=true):
  Dk (s.1,s.2.1,s.2.2.1,c.1,c.2.1,c.2.2.1,c.2.2.2.1,c.2.2.2.2.1,c.2.2.2.2.2.1,c.2.2.2.2.2.2.1,c.2.2.2.2.2.2.2.1,c.2.2.2.2.2.2.2.2.1,c.2.2.2.2.2.2.2.2.2.1,c.2.2.2.2.2.2.2.2.2.2.1,c.2.2.2.2.2.2.2.2.2.2.2.1,c.2.2.2.2.2.2.2.2.2.2.2.2.1,c.2.2.2.2.2.2.2.2.2.2.2.2.2.1,c.2.2.2.2.2.2.2.2.2.2.2.2.2.2.1,p.1,p.2.1,p.2.2.1,Azq s,Aak s,Dd s,())=true:=by
 obtain⟨q1,q2,q3,q4,q5,q6,q7,q8,q9⟩:=Aaq h hd
 obtain⟨c0,c1,c2,c3,c4,c5,c6,c7,c8,c9,c10,c11,c12,c13,c14,⟨⟩⟩:=c
 obtain⟨p0,p1,p2,⟨⟩⟩:=p
 rw[hd]
 have h1:c0=s.2.2.2.1:=h1
 have h2:c1=s.2.2.2.2.1:=h2
 exact A0d q1 q2 q3 hc (h1.trans q6) (by rw[h2];exact q7) hp q4 q9
theorem Bin (t:Ck) (h:Cf t<=4294967296):Anj t t=some (true,()):=by
 obtain⟨c,l,⟨⟩⟩:=t
 simp only[Cf]at h
 have hs:=Cs (B:=Ml) l.length (fun i=>((i:Int),c,l,c,l,())) (.inr ())
  (fun i hi=>by
   have hx:=List.getElem?_eq_getElem hi
   have hnx:=Ln (f:=A5) hx
   unfold Ml
   simp only[Af,Ah,Aa,Ak,Dh hi,A6,B8 hx,Ac]
   rw[Bft l[i] zq0,Ac,w64 zq0]
   rfl)
  (by unfold Ml;simp only[Af,Aa,Di,Ao])
 unfold Anj Am5
 simp only[Af,Ah,Aa,Ey,bne_self_eq_false,Ao]
 rw[show A0 Ml ((0:Int),c,l,c,l,())=_ from hs]
 rfl
def TP (M K:Nat) (t:Ck):Prop:=t.2.1.length<=M/\ ∀x∈t.2.1,SP K x
theorem SP.le {K N:Nat} {s:Al} (h:SP K s) (hk:K<=N):SP N s:=⟨Nat.le_trans h.1 hk,h.2⟩
theorem Bvw {l:List Al} {K:Nat} (h: ∀x∈l,SP K x):Br A5 l<=l.length*K:=by
 induction l with
 |nil=>simp[Br]
 |cons a r ih=>
  have h1:=(h a zq3).1
  have h2:=ih (fun x hx=>h x (by simp[hx]))
  simp only[Br,List.length_cons,Nat.succ_mul];omega
theorem TP.need {M K:Nat} {t:Ck} (h:TP M K t):Cf t<=M+M*K:=by
 have h1:=Bvw h.2
 have h2:=Nat.mul_le_mul_right K h.1
 have h3:=h.1
 simp only[Cf];omega
theorem TP.le {M K M' K':Nat} {t:Ck} (h:TP M K t) (h1:M<=M') (h2:K<=K'):TP M' K' t:=⟨Nat.le_trans h.1 h1,fun x hx=>(h.2 x hx).le h2⟩
theorem Bio {l:List Al} {i:Nat} {y x:Al} (h:x∈l.set i y):x∈l\/x=y:=List.mem_or_eq_of_mem_set h
theorem A0e {M K:Nat} (t:Ck) (s:Al) (ht:TP M K t) (hs:SP K s) (hb:M+M*K+K<=1073741824):Tot (fun r=>TP (M+1) K r.1) (Q9 t s):=by
 have hn:=ht.need
 have hs1:=hs.1
 obtain⟨r,b,e1,e2,_⟩:=A8z t s zq0
 obtain⟨⟨r',b',⟨⟩⟩,e3,h1,h2⟩:=Bo5 t s zq0
 rw[e1]at e3
 simp only[Option.some.injEq,Prod.mk.injEq,and_true]at e3
 obtain⟨rfl,rfl⟩:=e3
 refine⟨_,e2,?_⟩
 by_cases hc:b=0
 .obtain⟨_,_,_,_,_,_,e⟩:=h2 hc
  dsimp only at e ⊢
  subst e
  refine⟨by have:=ht.1;simp;omega,fun x hx=>?_⟩
  rcases List.mem_append.1 hx with hx|hx
  .exact ht.2 x hx
  .simp at hx;rw[hx];exact hs
 .have e:r=t:=h1 hc
  subst e
  exact ht.le zq0 (Nat.le_refl _)
theorem Bo6 (n:YI):Tot (fun r=>r.2.1.length=0) (Z1 n):=by
 obtain⟨r,_,e,h⟩:=Bdh n
 refine⟨r,e,?_⟩
 simp only[Cf]at h;omega
theorem A3k {b:List YB} {a0:Aw} (hc:B0 b a0):Tot (fun r=>TP 6 20000 r.1/\B0 b r.2) (Ac7 a0):=by
 unfold Ac7 Al8
 simp only[Af,Ah,Aa,Ak]
 refine Ae (Bj _ hc zq7) (fun r1 ⟨_,h1c⟩=>?_)
 refine Ae (Bo6 _) (fun r2 h2=>?_)
 refine Ae (Bj _ (Ab hc h1c) zq7) (fun r3 ⟨h3,h3c⟩=>?_)
 have h3b:0<=r3.1.1/\r3.1.1<6:=⟨h3.1,by rcases h3.2 with q|q<;>omega⟩
 refine Ae (Q:=fun o:(List YB)×Int×Int×Int×(List Al)×Int×(List Al)×Unit=>TP 6 20000 (o.2.2.2.2.2.1,o.2.2.2.2.2.2.1,())/\B0 b (o.1,o.2.1,o.2.2.1,())) ?_ (fun o ho=>Ag ⟨ho.1,ho.2⟩)
 refine A0b (fun i d=>d.1=r3.1.1-(i:Int)/\TP i 20000 (d.2.2.2.2.2.2.1,d.2.2.2.2.2.2.2.1,())/\d.2.1=a0.1/\B0 b (d.2.1,d.2.2.1,d.2.2.2.1,())) _ r3.1.1.toNat ?_ ?_ ⟨by omega,⟨by show r2.2.1.length<=0;omega,fun x hx=>by have:r2.2.1=[]:=List.eq_nil_of_length_eq_zero h2;rw[this]at hx;cases hx⟩,rfl,Ab hc h3c⟩
 .rintro i ⟨n,c1,c2,c3,z,zl,cap,l,⟨⟩⟩ hi ⟨q1,q2,q3,q4⟩
  dsimp only at q1 q2 q3 q4
  subst q1 q3
  unfold Vv
  simp only[Af,Ah,Aa,Ak]
  rw[Ai zq0,A6]
  have hnext:IntKind.i64.wrap (r3.1.1-(i:Int)-1)=r3.1.1-((i+1:Nat):Int):=by rw[w64 zq0];omega
  refine Ae (Adf q4) (fun r5 ⟨h5,h5c⟩=>?_)
  have h5s:SP 20000 r5.1:=h5.le zq7
  refine Ae (A0e (M:=i) (K:=20000) _ _ q2 h5s zq0) (fun r6 h6=>?_)
  refine Am (fun hp=>?_) (fun _=>?_)
  .simp only[decide_eq_true_eq]at hp
   refine Ae (Ba _ (Ab hc h5c) zq7) (fun r7 h7c=>?_)
   refine Am (fun _=>?_) (fun _=>?_)
   .have h6l:=h6.1
    refine Ae (Bj _ (Ab hc h7c) zq2) (fun r8 ⟨h8,h8c⟩=>?_)
    have h8b:0<=r8.1.1/\r8.1.1<(r6.1.2.1.length:Int):=⟨h8.1,by rcases h8.2 with q|q<;>(try dsimp only at q)<;>omega⟩
    refine Ae (E9 h8b.1 h8b.2 (fun x hx=>h6.2 x hx)) (fun e9 h9=>?_)
    refine Ae (Ad9 _ h9 zq7) (fun r10 h10=>?_)
    refine Ae (E9 h8b.1 h8b.2 (fun x hx=>h6.2 x hx)) (fun e11 h11=>?_)
    refine Ag ⟨_,rfl,hnext,⟨by simpa using h6.1,fun x hx=>?_⟩,rfl,Ab hc h8c⟩
    rcases Bio hx with hx|hx
    .exact h6.2 x hx
    .rw[hx];exact h10
   .exact Ag ⟨_,rfl,hnext,h6,rfl,Ab hc h7c⟩
  .exact Ag ⟨_,rfl,hnext,h6,rfl,Ab hc h5c⟩
 .rintro⟨n,c1,c2,c3,z,zl,cap,l,⟨⟩⟩ ⟨q1,q2,q3,q4⟩
  dsimp only at q1 q2 q3 q4
  unfold Vv
  simp only[Af,Ah,Aa,Ak]
  rw[Bt zq0,Ao]
  exact Ag ⟨_,rfl,q2.le zq0 (Nat.le_refl _),q4⟩
theorem Bx8 {K N:Nat} {s:Al} {v:List YB} (h:SP K s) (hv:v.length<=N) (hw:wfB v):SP (K+N) (s.1,s.2.1,v,s.2.2.2):=by
 obtain⟨s0,s1,s2,s3,s4,s5,s6,s7,s8,s9,s10,s11,s12,s13,s14,s15,s16,s17,s18,s19,s20,s21,s22,s23,⟨⟩⟩:=s
 obtain⟨h1,h2,h3⟩:=h
 refine⟨?_,hw,h3⟩
 simp only[A5]at h1 ⊢
 omega
def Aar (s:Al):Prop:=s.2.1.length+A9 (Cj s)+Bd (Bm s)<=4500/\wfB (Cj s).2.1
theorem Aar.of {s:Al} (h:SP 4500 s):Aar s:=by
 obtain⟨h1,h2,h3⟩:=h
 rw[Py]at h1
 exact⟨by omega,h3⟩
theorem Aar.same {i:Int} {cn sn v:List YB} {c0:Int} {c1:List YB} {c2:Int} {c3:List YB} {c4 c5:Int} {c6:List YI} {c7:Int} {c8:List YB} {c9 c10:Int} {c11:List YI} {c12:Bool} {c13:Int} {c14:List YB} {p0 p1:Int} {p2:List Bb} {t la:Int} {dd:Bool}
  (h:Aar (i,cn,sn,c0,c1,c2,c3,c4,c5,c6,c7,c8,c9,c10,c11,c12,c13,c14,p0,p1,p2,t,la,dd,())):Aar (i,cn,v,c0,c1,c2,c3,c4,c5,c6,c7,c8,c9,c10,c11,c12,c13,c14,p0,p1,p2,t,la,dd,()):=h
theorem Aar.sn {i:Int} {cn sn v:List YB} {c0:Int} {c1:List YB} {c2:Int} {c3:List YB} {c4 c5:Int} {c6:List YI} {c7:Int} {c8:List YB} {c9 c10:Int} {c11:List YI} {c12:Bool} {c13:Int} {c14:List YB} {p0 p1:Int} {p2:List Bb} {t la:Int} {dd:Bool}
  (h:Aar (i,cn,sn,c0,c1,c2,c3,c4,c5,c6,c7,c8,c9,c10,c11,c12,c13,c14,p0,p1,p2,t,la,dd,())) (hv:v.length<=12) (hw:wfB v):SP 4512 (i,cn,v,c0,c1,c2,c3,c4,c5,c6,c7,c8,c9,c10,c11,c12,c13,c14,p0,p1,p2,t,la,dd,()):=by
 obtain⟨h1,h2⟩:=h
 refine⟨?_,hw,h2⟩
 rw[Py]
 simp only[Cj,Bm]at h1 ⊢
 omega
theorem Bo7 {b:List YB} {a0:Aw} (hc:B0 b a0):Tot (fun r=>TP 30 40000 r.1/\B0 b r.2) (Atm a0):=by
 unfold Atm Afr
 simp only[Af,Ah,Aa,Ak]
 refine Ae (A3k hc) (fun r1 ⟨h1,h1c⟩=>?_)
 have h1l:=h1.1
 have h1':TP 30 40000 r1.1:=h1.le zq7 zq7
 refine Ae (Bj _ (Ab hc h1c) zq7) (fun r2 ⟨_,h2c⟩=>?_)
 have h2c':=Ab hc h2c
 refine Am (fun _=>?_) (fun _=>?_)
 .exact Ae (Cc _ 0 7 h2c' zq7 zq7) (fun r3 ⟨_,h3c⟩=>Ag ⟨h1',Ab hc h3c⟩)
 refine Am (fun _=>?_) (fun _=>?_)
 .refine Ae (Bo2 h2c') (fun r4 ⟨h4,h4c⟩=>?_)
  refine Dy (Ai (by simp only[List.length_cons,List.length_nil];omega)) (Ag ⟨⟨by simp;omega,fun x hx=>?_⟩,Ab hc h4c⟩)
  rcases List.mem_append.1 hx with hx|hx
  .exact h1'.2 x hx
  .simp at hx;rw[hx];exact h4.le zq7
 refine Am (fun _=>?_) (fun _=>?_)
 .refine Am (fun hg=>?_) (fun _=>Ag ⟨h1',h2c'⟩)
  simp only[decide_eq_true_eq]at hg
  refine Ae (E9 zq7 zq0 (fun x hx=>h1.2 x hx)) (fun e5 h5=>?_)
  refine Ae (E9 zq7 zq0 (fun x hx=>h1.2 x hx)) (fun e6 h6=>?_)
  refine Ag ⟨⟨by simpa using h1'.1,fun x hx=>?_⟩,h2c'⟩
  rcases Bio hx with hx|hx
  .exact h1'.2 x hx
  .rw[hx]
   have h5l:=(Auu h5).2.1
   exact(Bx8 h6 h5l h5.2.1).le zq7
 refine Am (fun _=>?_) (fun _=>Ag ⟨h1',h2c'⟩)
 refine Ae (Adf h2c') (fun r8 ⟨h8,h8c⟩=>?_)
 refine Ae (Ad9 _ h8 zq7) (fun r9 h9=>?_)
 refine Ae (Cc _ 9 13 (Ab hc h8c) zq7 zq7) (fun r10 ⟨h10,h10c⟩=>?_)
 refine Ae (Q:=fun o:(List YB)×Int×Int×Int×(List Al)×Int×(List Al)×Unit=>TP 30 40000 (o.2.2.2.2.2.1,o.2.2.2.2.2.2.1,())/\B0 b (o.1,o.2.1,o.2.2.1,())) ?_ (fun o ho=>Ag ⟨ho.1,ho.2⟩)
 refine Aap (fun i d=>d.1=r10.1.1-(i:Int)/\TP (6+i) 40000 (d.2.2.2.2.2.2.1,d.2.2.2.2.2.2.2.1,())/\d.2.1=a0.1/\B0 b (d.2.1,d.2.2.1,d.2.2.2.1,())/\Aar d.2.2.2.2.2.2.2.2) _ 14 ?_ ⟨by omega,⟨h1.1,fun x hx=>(h1.2 x hx).le zq7⟩,rfl,Ab hc h10c,?_⟩
 .rintro i ⟨n,c1,c2,c3,z,zl,cap,l,s0,s1,s2,s3,s4,s5,s6,s7,s8,s9,s10,s11,s12,s13,s14,s15,s16,s17,s18,s19,s20,s21,s22,s23,⟨⟩⟩ hi ⟨q1,q2,q3,q4,q5⟩
  dsimp only at q1 q2 q3 q4 q5
  subst q1 q3
  have hl:=q2.1
  dsimp only at hl
  unfold Vy
  simp only[Af,Ah,Aa,Ak]
  refine Am (fun hg=>?_) (fun _=>?_)
  .simp only[decide_eq_true_eq]at hg
   refine Ae (De _ q4 zq7) (fun r16 ⟨⟨h16,h16w⟩,h16c⟩=>?_)
   refine Dy (Ai (by simp only[List.length_cons,List.length_nil];omega)) (Ag (.inl ⟨_,rfl,by omega,?_,⟨?_,fun x hx=>?_⟩,rfl,Ab hc h16c,?_⟩))
   .dsimp only;rw[w64 zq0];omega
   .simp;omega
   .dsimp only at hx
    rcases List.mem_append.1 hx with hx|hx
    .exact q2.2 x hx
    .simp only[List.mem_singleton]at hx
     rw[hx]
     exact(Aar.sn (v:=r16.1.1) q5 (by dsimp only at h16;omega) h16w).le zq7
   .exact Aar.same (v:=r16.1.1) q5
  .exact Ag (.inr ⟨_,rfl,q2.le zq0 (Nat.le_refl _),q4⟩)
 .exact Aar.of h9
theorem Bip (l:List An) (a:A8) (h:l.length<=4294967296):Tot (fun _=>True) (Jc (l,()) a):=by
 have hp:=A09 (q:=fun x:An=>eqA x.1 x.2.1 a.1 a.2.1) (l:=l)
 unfold Jc U3
 simp only[Af,Ah,Aa]
 rw[Abz l a h,Ac,K8 l h,Ac]
 refine Am (fun _=>Ag trivial) (fun _=>Am (fun _=>Ag trivial) (fun hg=>?_))
 simp only[decide_eq_false_iff_not]at hg
 refine Ae (E9 (P:=fun _=>True) zq0 hp.2 (fun _ _=>trivial)) (fun e3 _=>?_)
 exact Ae (E9 (P:=fun _=>True) zq0 hp.2 (fun _ _=>trivial)) (fun e4 _=>Ag trivial)
theorem Bo8 (l:List An) (a:A8) (n:YI) (h:l.length<=1000):Tot (fun r=>r.1.1.length<=l.length) (Sq (l,()) a n):=by
 have hp:=A09 (q:=fun x:An=>eqA x.1 x.2.1 a.1 a.2.1) (l:=l)
 unfold Sq Aj3
 simp only[Af,Ah,Aa,Ak,List.length_nil,List.nil_append,Nat.zero_add]
 refine Dy (Ai zq0) ?_
 rw[Abz l a zq0,Ac,K8 l zq0,Ac]
 have no:Tot (fun r:((List An)×Unit)×(Bool×Unit)=>r.1.1.length<=l.length) (some ((l,()),(false,()))):=Ag (Nat.le_refl _)
 refine Am (fun _=>no) (fun hg=>Am (fun _=>no) (fun _=>?_))
 simp only[decide_eq_false_iff_not]at hg
 refine Ae (Bip l a zq0) (fun r3 _=>?_)
 rw[Cy,Ac]
 refine Am (fun _=>no) (fun _=>?_)
 refine Ae (E9 (P:=fun _=>True) zq0 hp.2 (fun _ _=>trivial)) (fun e3 _=>?_)
 exact Ae (E9 (P:=fun _=>True) zq0 hp.2 (fun _ _=>trivial)) (fun e4 _=>Ag zq3)
theorem Br8 (l:List An) (a:A8) (n:YI) (h:l.length<=1000):Tot (fun r=>r.1.length<=l.length+1) (Wk (l,()) a n):=by
 have hp:=A09 (q:=fun x:An=>eqA x.1 x.2.1 a.1 a.2.1) (l:=l)
 unfold Wk Ara
 simp only[Af,Ah,Aa,Ak,List.length_nil,List.nil_append,Nat.zero_add]
 refine Dy (Ai zq0) ?_
 rw[K8 l zq0,Ac,Il,Ac,Cy,Ac,Abz l a zq0,Ac]
 have no:Tot (fun r:(List An)×Unit=>r.1.length<=l.length+1) (some (l,())):=Ag zq3
 refine Am (fun _=>no) (fun _=>Am (fun _=>no) (fun _=>Am (fun _=>no) (fun _=>?_)))
 refine Am (fun _=>Am (fun _=>no) (fun _=>Dy (Ai zq1) (Ag zq3))) (fun hg=>?_)
 simp only[decide_eq_false_iff_not]at hg
 refine Ae (E9 (P:=fun _=>True) zq0 hp.2 (fun _ _=>trivial)) (fun e3 _=>?_)
 refine Ae (E9 (P:=fun _=>True) zq0 hp.2 (fun _ _=>trivial)) (fun e4 _=>?_)
 refine Ae (E9 (P:=fun _=>True) zq0 (by rw[List.length_set];exact hp.2) (fun _ _=>trivial)) (fun e8 _=>?_)
 refine Am (fun _=>?_) (fun _=>Ag zq3)
 exact Ae (E9 (P:=fun _=>True) zq0 (by rw[List.length_set];exact hp.2) (fun _ _=>trivial)) (fun e9 _=>Ag zq3)
theorem A3l {b:List YB} {a0:Aw} (n:YI) (hc:B0 b a0) (hn:0<=n.1/\n.1<=20):Tot (fun r=>r.1.1.length<=21/\B0 b r.2) (Ac8 a0 n):=by
 unfold Ac8 Amb
 simp only[Af,Ah,Aa,Ak]
 rw[w64 zq0]
 refine Ae (Bj _ hc zq2) (fun r1 ⟨h1,h1c⟩=>?_)
 have h1b:0<=r1.1.1/\r1.1.1<=20:=⟨h1.1,by rcases h1.2 with q|q<;>(try dsimp only at q)<;>omega⟩
 refine Ae (Q:=fun o:(List An)×(List YB)×Int×Int×Unit=>o.1.length<=21/\B0 b (o.2.1,o.2.2.1,o.2.2.2.1,())) ?_ (fun o ho=>Ag ho)
 refine A0b (fun i d=>d.2.1=r1.1.1-(i:Int)/\d.1.length<=i/\d.2.2.1=a0.1/\B0 b (d.2.2.1,d.2.2.2.1,d.2.2.2.2.1,())) _ r1.1.1.toNat ?_ ?_ ⟨by dsimp only;omega,by simp,rfl,Ab hc h1c⟩
 .rintro i ⟨l,k,c1,c2,c3,⟨⟩⟩ hi ⟨q1,q2,q3,q4⟩
  dsimp only at q1 q2 q3 q4
  subst q1 q3
  unfold Vw
  simp only[Af,Ah,Aa,Ak]
  rw[Ai zq0,A6]
  refine Ae (Bj _ q4 zq7) (fun r3 ⟨_,h3c⟩=>?_)
  refine Ae (Wx _) (fun r4 _=>?_)
  refine Ae (Is _ (Ab hc h3c) zq7) (fun r5 h5c=>?_)
  refine Ae (Br8 l _ _ zq0) (fun r6 h6=>?_)
  refine Ae (Is _ (Ab hc h5c) zq7) (fun r7 h7c=>?_)
  refine Ae (show Tot _ (Sq (r6.1,()) r4 r7.1)from Bo8 r6.1 _ _ zq0) (fun r8 h8=>?_)
  refine Ag ⟨_,rfl,?_,by dsimp only;omega,rfl,(show B0 b (a0.1,r7.2.2.1,r7.2.2.2.1,())from Ab hc h7c)⟩
  dsimp only;rw[w64 zq0];omega
 .rintro⟨l,k,c1,c2,c3,⟨⟩⟩ ⟨q1,q2,q3,q4⟩
  dsimp only at q1 q2 q3 q4
  unfold Vw
  simp only[Af,Ah,Aa,Ak]
  rw[Bt zq0,Ao]
  exact Ag ⟨_,rfl,by dsimp only;omega,q4⟩
theorem Bo9 {b:List YB} {a0:Aw} (hc:B0 b a0):Tot (fun r=>r.1.1.length<=30/\B0 b r.2) (Atn a0):=by
 unfold Atn Ari
 simp only[Af,Ah,Aa,Ak]
 refine Ae (A3l ((14:Int),()) hc zq7) (fun r1 ⟨h1,h1c⟩=>?_)
 refine Am (fun _=>Ag ⟨by dsimp only;omega,Ab hc h1c⟩) (fun hz=>?_)
 have hpos:0<r1.1.1.length:=by
  rcases Nat.eq_zero_or_pos r1.1.1.length with q|q
  .rw[q]at hz;simp at hz
  .exact q
 refine Ae (Bj _ (Ab hc h1c) zq2) (fun r2 ⟨h2,h2c⟩=>?_)
 have h2b:0<=r2.1.1/\r2.1.1<(r1.1.1.length:Int):=⟨h2.1,by rcases h2.2 with q|q<;>(try dsimp only at q)<;>omega⟩
 refine Ae (Bj _ (Ab hc h2c) zq7) (fun r3 ⟨_,h3c⟩=>?_)
 have at_: ∀ {β:Type} {P:β->Prop} {f:An->Option β},(∀e,Tot P (f e))->Tot P (ob (idx r1.1.1 r2.1.1) f):=fun hf=>Ae (E9 (P:=fun _=>True) h2b.1 h2b.2 (fun _ _=>trivial)) (fun e _=>hf e)
 refine Am (fun _=>?_) (fun _=>?_)
 .exact Ae (Ad8 (Ab hc h3c)) (fun r4 h4c=>at_ fun e=>Ag ⟨by simp;omega,Ab hc h4c⟩)
 refine Am (fun _=>?_) (fun _=>?_)
 .exact Ae (Is _ (Ab hc h3c) zq7) (fun r4 h4c=>at_ fun e=>Ag ⟨by simp;omega,Ab hc h4c⟩)
 refine Am (fun _=>?_) (fun _=>?_)
 .exact at_ fun e=>Ae (Is _ (Ab hc h3c) zq3) (fun r4 h4c=>at_ fun e=>Ag ⟨by simp;omega,Ab hc h4c⟩)
 refine Am (fun _=>?_) (fun _=>Ag ⟨by dsimp only;omega,Ab hc h3c⟩)
 exact at_ fun e=>Dy (Ai zq1) (Ag ⟨by simp;omega,Ab hc h3c⟩)
theorem Blp {b:List YB} {a0:Aw} (hc:B0 b a0):Tot (fun r=>(r.1.1.length<=3/\ ∀x∈r.1.1,x.1.length<=32)/\B0 b r.2) (Am6 a0):=by
 unfold Am6 Alf
 simp only[Af,Ah,Aa,Ak]
 refine Ae (Bj _ hc zq7) (fun r1 ⟨h1,h1c⟩=>?_)
 have h1b:0<=r1.1.1/\r1.1.1<3:=⟨h1.1,by rcases h1.2 with q|q<;>(try dsimp only at q)<;>omega⟩
 rw[w64 zq0]
 refine Ae (Q:=fun o:(List YBs)×(List YB)×Int×Int×Unit=>(o.1.length<=3/\ ∀x∈o.1,x.1.length<=32)/\B0 b (o.2.1,o.2.2.1,o.2.2.2.1,())) ?_ (fun o ho=>Ag ho)
 refine A0b (fun i d=>d.2.1=1+r1.1.1-(i:Int)/\(d.1.length<=i/\ ∀x∈d.1,x.1.length<=32)/\d.2.2.1=a0.1/\B0 b (d.2.2.1,d.2.2.2.1,d.2.2.2.2.1,())) _ (1+r1.1.1).toNat ?_ ?_ ⟨by dsimp only;omega,⟨by simp,fun x hx=>by cases hx⟩,rfl,Ab hc h1c⟩
 .rintro i ⟨l,k,c1,c2,c3,⟨⟩⟩ hi ⟨q1,q2,q3,q4⟩
  dsimp only at q1 q2 q3 q4
  subst q1 q3
  unfold Vt
  simp only[Af,Ah,Aa,Ak]
  rw[Ai zq0,A6]
  refine Ae (Bj _ q4 zq7) (fun r3 ⟨h3,h3c⟩=>?_)
  have h3b:0<=r3.1.1/\r3.1.1<32:=⟨h3.1,by rcases h3.2 with q|q<;>(try dsimp only at q)<;>omega⟩
  refine Ae (De _ (Ab hc h3c) (by dsimp only;rw[w64 zq0];omega)) (fun r4 ⟨⟨h4,_⟩,h4c⟩=>?_)
  dsimp only at h4
  rw[w64 zq0]at h4
  refine Dy (Ai zq1) (Ag ⟨_,rfl,?_,⟨by simp;omega,fun x hx=>?_⟩,rfl,(show B0 b (a0.1,r4.2.2.1,r4.2.2.2.1,())from Ab hc h4c)⟩)
  .dsimp only;rw[w64 zq0];omega
  .dsimp only at hx
   rcases List.mem_append.1 hx with hx|hx
   .exact q2.2 x hx
   .simp only[List.mem_singleton]at hx
    rw[hx];omega
 .rintro⟨l,k,c1,c2,c3,⟨⟩⟩ ⟨q1,q2,q3,q4⟩
  dsimp only at q1 q2 q3 q4
  unfold Vt
  simp only[Af,Ah,Aa,Ak]
  rw[Bt zq0,Ao]
  exact Ag ⟨_,rfl,⟨by dsimp only;omega,q2.2⟩,q4⟩
def PP (M:Nat) (l:List YBs):Prop:=l.length<=M/\ ∀x∈l,x.1.length<=32
theorem PP.sum {M:Nat} {l:List YBs} (h:PP M l):Br Ec l<=M*32:=by
 have key: ∀l:List YBs,(∀x∈l,x.1.length<=32)->Br Ec l<=l.length*32:=by
  intro l
  induction l with
  |nil=>intro _;simp[Br]
  |cons a r ih=>
   intro h
   have h1:=h a zq3
   have h2:=ih (fun x hx=>h x (by simp[hx]))
   simp only[Br,Ec,List.length_cons];omega
 have h1:=key l h.2
 have h2:=h.1
 omega
def SvP (s:Bc):Prop:=PP 10 s.1/\s.2.1.length<=64/\s.2.2.1.length<=64/\TP 40 40000 (s.2.2.2.2.1,s.2.2.2.2.2.1,())/\s.2.2.2.2.2.2.1.length<=40
theorem SvP.need {s:Bc} (h:SvP s):Bh s<=2000000:=by
 obtain⟨h1,h2,h3,h4,h5⟩:=h
 have e1:=h1.sum
 have e2:=h1.1
 have e3:=h4.need
 have e4:=h4.1
 simp only[Cf]at e3
 simp only[Bh]
 dsimp only at e4
 omega
theorem Bbj (ps:List YBs×Unit) (sd:YBs) (n:YI) (hp:PP 5 ps.1) (hs:sd.1.length<=32):Tot (fun r=>PP 5 r.1/\r.2.1.length<=32/\r.2.2.1.length<=32/\r.2.2.2.2.2.1.length=0) (Ae9 ps sd n):=by
 obtain⟨t,ht1,ht2,ht3⟩:=Bdh n
 have h1:=Bhx (sd.1,(0:Int),())
 have h2:=A81 (Fv (sd.1,(0:Int),())).2
 have h3:=hp.sum
 have h4:=hp.1
 simp only[Cf]at ht3
 unfold Ae9 Aei
 simp only[Af,Ah,Aa]
 rw[Bhz _ zq2]
 simp only[Ac,Bh0,ht2]
 rw[Brj ps.1 zq0]
 simp only[Ac]
 have hn:Bh (ps.1,Az1 (Fv (sd.1,(0:Int),())).2,(Fv (sd.1,(0:Int),())).1.1,(Fv (sd.1,(0:Int),())).1.2.1,t.1,t.2.1,[],())<=1000:=by
  simp only[Bh,h1,List.length_nil];omega
 rw[Auk _ zq0]
 simp only[Ac]
 refine Am (fun _=>?_) (fun _=>?_)
 .exact Ag ⟨⟨by simp,fun x hx=>by cases hx⟩,by simp,by simp,rfl⟩
 .exact Ag ⟨hp,h2,by rw[h1];exact hs,by dsimp only;omega⟩
theorem Bpa {b:List YB} {a0:Aw} (hc:B0 b a0):Tot (fun r=>r.1.1.length<=32/\B0 b r.2) (Ath a0):=by
 unfold Ath Arc
 simp only[Af,Ah,Aa,Ak]
 refine Ae (De _ hc zq7) (fun r1 ⟨_,h1c⟩=>?_)
 rw[show Z0 r1.1=_ from Bh0 r1.1.1,Ac]
 refine Ae (Ba _ (Ab hc h1c) zq7) (fun r3 h3c=>?_)
 refine Am (fun _=>?_) (fun _=>Ag ⟨A81 _,Ab hc h3c⟩)
 refine Ae (Cc _ 0 32 (Ab hc h3c) zq7 zq7) (fun r4 ⟨h4,h4c⟩=>?_)
 exact Ae (De _ (Ab hc h4c) zq0) (fun r5 ⟨⟨h5,_⟩,h5c⟩=>Ag ⟨by dsimp only;omega,Ab hc h5c⟩)
theorem Bpb {b:List YB} {a0:Aw} (x y:List YBs×Unit) (hc:B0 b a0) (hx:PP 5 x.1) (hy:PP 5 y.1):Tot (fun r=>PP 5 r.1.1/\B0 b r.2) (Atg a0 x y):=by
 unfold Atg Arb
 simp only[Af,Ah,Aa,Ak]
 refine Ae (Ba _ hc zq7) (fun r1 h1c=>?_)
 exact Am (fun _=>Ag ⟨hx,Ab hc h1c⟩) (fun _=>Ag ⟨hy,Ab hc h1c⟩)
theorem Blq {b:List YB} {a0:Aw} (hc:B0 b a0):Tot (fun r=>(PP 5 r.1.1/\r.1.2.1.length<=64/\r.1.2.2.1.length<=64/\TP 30 20000 (r.1.2.2.2.2.1,r.1.2.2.2.2.2.1,())/\r.1.2.2.2.2.2.2.1.length<=40)/\B0 b r.2) (Am9 a0):=by
 unfold Am9 Amc
 simp only[Af,Ah,Aa,Ak]
 refine Ae (Blp hc) (fun r1 ⟨h1,h1c⟩=>?_)
 refine Ae (De _ (Ab hc h1c) zq7) (fun r2 ⟨⟨h2,_⟩,h2c⟩=>?_)
 refine Ae (Bj _ (Ab hc h2c) zq7) (fun r3 ⟨_,h3c⟩=>?_)
 have h2':r2.1.1.length=8:=h2
 refine Ae (Bbj _ _ _ ⟨by omega,h1.2⟩ zq0) (fun r4 ⟨h4a,h4b,h4c,h4d⟩=>?_)
 refine Ae (A3k (Ab hc h3c)) (fun r5 ⟨h5,h5c⟩=>?_)
 refine Ae (Q:=fun o:(List YB)×Int×Int×(List YBs)×(List YB)×(List YB)×Int×Int×(List Al)×(List An)×(List YBs)×(List YB)×(List YB)×Int×Int×(List Al)×(List An)×Unit=>(PP 5 o.2.2.2.2.2.2.2.2.2.2.1/\o.2.2.2.2.2.2.2.2.2.2.2.1.length<=32/\o.2.2.2.2.2.2.2.2.2.2.2.2.1.length<=32/\TP 6 20000 (o.2.2.2.2.2.2.2.2.2.2.2.2.2.2.1,o.2.2.2.2.2.2.2.2.2.2.2.2.2.2.2.1,()))/\o.1=a0.1/\B0 b (o.1,o.2.1,o.2.2.1,())) ?_ (fun o ⟨⟨o1,o2,o3,o4⟩,o5,o6⟩=>?_)
 .have h5l:=h5.1
  refine A0b (fun i d=>d.1=(i:Int)/\d.2.2.2.2.2.2.2.2.2.2.2.2.2.2.2.2.2.2.2.1=r5.1.2.1/\(PP 5 d.2.2.2.2.2.2.2.2.2.2.2.1/\d.2.2.2.2.2.2.2.2.2.2.2.2.1.length<=32/\d.2.2.2.2.2.2.2.2.2.2.2.2.2.1.length<=32/\TP i 20000 (d.2.2.2.2.2.2.2.2.2.2.2.2.2.2.2.1,d.2.2.2.2.2.2.2.2.2.2.2.2.2.2.2.2.1,()))/\d.2.1=a0.1/\B0 b (d.2.1,d.2.2.1,d.2.2.2.1,())) _ r5.1.2.1.length ?_ ?_ ⟨rfl,rfl,⟨h4a,h4b,h4c,⟨by dsimp only;omega,fun x hx=>by have:r4.2.2.2.2.2.1=[]:=List.eq_nil_of_length_eq_zero h4d;dsimp only at hx;rw[this]at hx;cases hx⟩⟩,rfl,Ab hc h5c⟩
  .rintro i ⟨k,c1,c2,c3,z0,z1,z2,z3,z4,z5,z6,s0,s1,s2,s3,s4,s5,s6,tc,tl,⟨⟩⟩ hi ⟨q1,q2,⟨q3,q4,q5,q6⟩,q7,q8⟩
   dsimp only at q1 q2 q3 q4 q5 q6 q7 q8
   subst q1 q2 q7
   unfold Vx
   simp only[Af,Ah,Aa,Ak]
   rw[Ai zq0,A6]
   have hnx:IntKind.i64.wrap ((i:Int)+1)=((i+1:Nat):Int):=by rw[w64 zq0];omega
   have at_: ∀ {β:Type} {P:β->Prop} {f:Al->Option β},(∀e,SP 20000 e->Tot P (f e))->Tot P (ob (idx r5.1.2.1 (i:Int)) f):=fun hf=>Ae (E9 zq0 zq0 (fun x hx=>h5.2 x hx)) (fun e he=>hf e he)
   refine at_ fun e7 h7=>Am (fun _=>?_) (fun _=>?_)
   .refine at_ fun e8 h8=>Ae (A0e (M:=i) (K:=20000) _ _ q6 h8 zq0) (fun r9 h9=>?_)
    exact Ag ⟨_,rfl,hnx,rfl,⟨q3,q4,q5,h9⟩,rfl,q8⟩
   .exact Ag ⟨_,rfl,hnx,rfl,⟨q3,q4,q5,q6.le zq0 (Nat.le_refl _)⟩,rfl,q8⟩
  .rintro⟨k,c1,c2,c3,z0,z1,z2,z3,z4,z5,z6,s0,s1,s2,s3,s4,s5,s6,tc,tl,⟨⟩⟩ ⟨q1,q2,⟨q3,q4,q5,q6⟩,q7,q8⟩
   dsimp only at q1 q2 q3 q4 q5 q6 q7 q8
   subst q1 q2
   unfold Vx
   simp only[Af,Ah,Aa,Ak]
   rw[Bt zq0,Ao]
   exact Ag ⟨_,rfl,⟨q3,q4,q5,q6.le zq0 (Nat.le_refl _)⟩,q7,q8⟩
 .refine Ae (A3l ((6:Int),()) o6 zq7) (fun r11 ⟨h11,h11c⟩=>?_)
  refine Ae (Bj _ (Ab o6 h11c) zq7) (fun r12 ⟨_,h12c⟩=>?_)
  exact Ag ⟨⟨o1,by dsimp only;omega,by dsimp only;omega,o4.le zq7 zq7,by dsimp only;omega⟩,Ab o6 h12c⟩
theorem Bpc {b:List YB} {a0:Aw} (hc:B0 b a0):Tot (fun r=>SvP r.1/\B0 b r.2) (Ato a0):=by
 unfold Ato Arj
 simp only[Af,Ah,Aa,Ak]
 refine Ae (Blq hc) (fun r1 ⟨⟨g1,g2,g3,g4,g5⟩,h1c⟩=>?_)
 have p1:PP 10 r1.1.1:=⟨Nat.le_trans g1.1 zq7,g1.2⟩
 have p4:TP 40 40000 (r1.1.2.2.2.2.1,r1.1.2.2.2.2.2.1,()):=g4.le zq7 zq7
 have g1l:=g1.1
 have g4l:=g4.1
 dsimp only at g4l
 refine Ae (Bj _ (Ab hc h1c) zq7) (fun r2 ⟨_,h2c⟩=>?_)
 have h2c':=Ab hc h2c
 refine Am (fun _=>?_) (fun _=>?_)
 .refine Ae (Bpb _ _ h2c' ⟨by simp,fun x hx=>?_⟩ g1) (fun r3 ⟨h3,h3c⟩=>Ag ⟨⟨⟨Nat.le_trans h3.1 zq7,h3.2⟩,g2,g3,p4,g5⟩,Ab hc h3c⟩)
  simp only[List.mem_cons,List.not_mem_nil,or_false]at hx
  rcases hx with rfl|rfl<;>simp
 refine Am (fun _=>?_) (fun _=>?_)
 .exact Ae (Bpa h2c') (fun r3 ⟨h3,h3c⟩=>Ag ⟨⟨p1,by dsimp only;omega,g3,p4,g5⟩,Ab hc h3c⟩)
 refine Am (fun _=>?_) (fun _=>?_)
 .exact Ae (Is _ h2c' zq7) (fun r3 h3c=>Ag ⟨⟨p1,g2,g3,p4,g5⟩,Ab hc h3c⟩)
 refine Am (fun _=>?_) (fun _=>?_)
 .exact Ae (Bo7 h2c') (fun r3 ⟨h3,h3c⟩=>Ag ⟨⟨p1,g2,g3,h3.le zq7 zq7,g5⟩,Ab hc h3c⟩)
 refine Am (fun _=>?_) (fun _=>?_)
 .exact Ae (Bo9 h2c') (fun r3 ⟨h3,h3c⟩=>Ag ⟨⟨p1,g2,g3,p4,by dsimp only;omega⟩,Ab hc h3c⟩)
 refine Am (fun _=>?_) (fun _=>?_)
 .refine Dy (Ai zq1) (Ag ⟨⟨⟨by simp;omega,fun x hx=>?_⟩,g2,g3,p4,g5⟩,h2c'⟩)
  rcases List.mem_append.1 hx with hx|hx
  .exact g1.2 x hx
  .simp only[List.mem_singleton]at hx;rw[hx];simp
 refine Am (fun _=>?_) (fun _=>Ag ⟨⟨p1,g2,g3,p4,g5⟩,h2c'⟩)
 refine Ae (Adf h2c') (fun r8 ⟨h8,h8c⟩=>?_)
 refine Ae (Ad9 _ h8 zq7) (fun r9 h9=>?_)
 refine Dy (Ai zq1) (Ag ⟨⟨p1,g2,g3,⟨by simp;omega,fun x hx=>?_⟩,g5⟩,Ab hc h8c⟩)
 dsimp only at hx
 rcases List.mem_append.1 hx with hx|hx
 .exact p4.2 x hx
 .simp only[List.mem_singleton]at hx;rw[hx];exact h9.le zq7
def Pz (s:Bc):Ck:=(s.2.2.2.2.1,s.2.2.2.2.2.1,())
theorem Ep {s:Bc}:Ej s=true↔inR (s.1.length:Int) 1 9=true/\((s.2.1.length:Int)==32)=true/\G3 (s.2.2.1,s.2.2.2.1,())=true/\Je (s.2.2.2.2.1,s.2.2.2.2.2.1,())=true/\Cr s.2.2.2.2.2.2.1=true/\Ee (fun _ x=> !L8 x) s.1=true/\ ∀x∈s.2.2.2.2.2.1,x.1<=(s.1.length:Int):=by
 have key:Ee (fun _ (x:Al)=>decide (x.1>(s.1.length:Int))) s.2.2.2.2.2.1=true↔ ∀x∈s.2.2.2.2.2.1,x.1<=(s.1.length:Int):=by
  rw[H0]
  constructor
  .intro h x hx
   obtain⟨j,hj⟩:=List.getElem?_of_mem hx
   have:=h j x hj
   simp only[decide_eq_false_iff_not]at this
   omega
  .intro h j x hj
   have:=h x (List.mem_of_getElem? hj)
   simp only[decide_eq_false_iff_not]
   omega
 unfold Ej
 simp only[Bool.and_eq_true,key]
theorem A5s (l:List An) (h:l.length<=4294967296):Aag (l,()) (l,())=some (true,()):=by
 have hs:=Cs (B:=Iv) l.length (fun i=>(l,l,(i:Int),())) (.inr ())
  (fun i hi=>by
   have hx:=List.getElem?_eq_getElem hi
   unfold Iv
   simp only[Af,Ah,Aa,Ak,Dh hi,A6,B8 hx,Ac,beq_self_eq_true,Bool.and_self,Bool.not_true,Ao]
   rw[w64 zq0]
   rfl)
  (by unfold Iv;simp only[Af,Aa,Di,Ao])
 unfold Aag Zy
 simp only[Af,Ah,Aa,Ey,bne_self_eq_false,Ao]
 rw[show A0 Iv (l,l,(0:Int),())=_ from hs]
 rfl
theorem Aky (s:Bc) (h:Bh s<=4294967296):Ll s s=some (true,()):=by
 obtain⟨ps,jar,sd,n,cap,ss,cr,⟨⟩⟩:=s
 simp only[Bh]at h
 have hs:=Cs (B:=I3) ps.length (fun i=>((i:Int),ps,jar,sd,n,cap,ss,cr,ps,jar,sd,n,cap,ss,cr,())) (.inr ())
  (fun i hi=>by
   have hx:=List.getElem?_eq_getElem hi
   unfold I3
   simp only[Af,Ah,Aa,Ak,Dh hi,A6,B8 hx,Ac]
   rw[Ta ps[i],Ac,w64 zq0]
   rfl)
  (by unfold I3;simp only[Af,Aa,Di,Ao])
 unfold Ll Abm
 simp only[Af,Ah,Aa,Ey,bne_self_eq_false,Ao]
 rw[show I4 (jar,()) (jar,())=_ from Ta (jar,()),Ac,show I4 (sd,()) (sd,())=_ from Ta (sd,()),Ac,Bin (cap,ss,()) (by simp only[Cf];omega),Ac,A5s cr zq0,Ac,
  show A0 I3 ((0:Int),ps,jar,sd,n,cap,ss,cr,ps,jar,sd,n,cap,ss,cr,())=_ from hs]
 rfl
theorem Bvx (b:List YB) (n:Int) (hl:b.length<=1073741824):Fu (b,()) (n,()) ((2:Int),())=some (b++F9 n 2 2,()):=Bhm b n 2 zq0 zq0 hl
theorem Bvy (b:List YB) (n:Int) (hl:b.length<=1073741824):Fb (b,()) (n,()) ((2:Int),())=some (b++F9 n 2 2,()):=A8u b n 2 zq0 zq0 hl
theorem Bd2 {s:List YB} {n:Int} (h:G3 (s,n,())=true):(S6 s n).length=12:=by
 unfold G3 at h
 simp only[Bool.and_eq_true]at h
 have h1:=Bx.1 h.1
 unfold S6
 rw[if_pos ⟨h.1,h.2⟩,List.length_take,Rc _ _ zq0 (by simp[Akw,Fi])]
 decide
end
end Go.Proofs.YthccfdmiejmbaaaGreat

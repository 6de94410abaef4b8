/-
  That the program and the reference answer alike, in plain terms, and that the laws answer true.
-/
import Derived.Test.YtnbbbaplphcebaaGreatG3
namespace Go.Proofs.YtnbbbaplphcebaaGreat
open Go.RowKit
set_option linter.unusedVariables false
set_option linter.unusedSimpArgs false
set_option maxRecDepth 100000
set_option maxHeartbeats 16000000
noncomputable section
theorem Bm4 {c:Ap} {k:Int} {p:List YB} {c':Ap} {f:Ar} (h:ChS c k p c' f 0):Ci c'=true/\c'.1=c.1/\J6 c'=J6 c/\B7 f=true/\Ji (Gy c' f)=true/\A7 c'=A7 c/\Aq f<=A7 c+p.length+32/\f.2.2.2.1=c.2.1:=by
 obtain⟨e',G1,q2,q3,q4,q5⟩:=h
 obtain⟨w1,w2,w3,w4,w5,w6⟩:=q5 rfl
 have s3:=Aak w6
 rw[<-w5]at s3
 exact⟨w2,by rw[G1];rfl,by rw[G1];rfl,s3,Aqy w2,q2,q3,by rw[w5];exact Bml w6⟩
def Br9 (a b:Ak):Prop:=Dz a.2.2.1 b.2.2.1=false
theorem Bgb {l:List Ak}:D6 (La l) l=true↔(∀x∈l,Cs x=true)/\l.Pairwise Br9:=by
 have hq: ∀(i:Nat) (x:Ak),l[i]? =some x->(La l i x=false↔Cs x=true/\D6 (fun _ (y:Ak)=>Dz y.2.2.1 x.2.2.1) (l.take i)=true):=fun i x hx=>by
  unfold La Fr
  rw[Awn (q:=fun y:Ak=>Dz y.2.2.1 x.2.2.1) hx (Kk _)]
  simp only[Bool.not_not,Bool.not_eq_false',Bool.and_eq_true]
 rw[G8,List.pairwise_iff_getElem]
 constructor
 .intro h
  refine⟨fun x hx=>?_,fun i j hi hj hij=>?_⟩
  .obtain⟨j,hj⟩:=List.getElem?_of_mem hx
   exact((hq j x hj).1 (h j x hj)).1
  .have h1:=((hq j l[j] (List.getElem?_eq_getElem hj)).1 (h j l[j] (List.getElem?_eq_getElem hj))).2
   rw[G8]at h1
   exact h1 i l[i] (by rw[List.getElem?_take,if_pos hij];exact List.getElem?_eq_getElem hi)
 .rintro⟨h1,h2⟩ j x hj
  refine(hq j x hj).2 ⟨h1 x (List.mem_of_getElem? hj),G8.2 fun i y hi=>?_⟩
  rw[List.getElem?_take]at hi
  split at hi
  .rename_i hlt
   obtain⟨k1,k2⟩:=List.getElem?_eq_some_iff.1 hi
   obtain⟨k3,k4⟩:=List.getElem?_eq_some_iff.1 hj
   have:=h2 i j k1 k3 hlt
   rw[k2,k4]at this
   exact this
  .cases hi
theorem Ach {c:Int} {l:List Ak} (hl:l.length<=4294967296):Hm (c,l,())=true↔(1<=c/\c<=6)/\l.length<=12/\(Fa l:Int)<=c/\(∀x∈l,Cs x=true)/\l.Pairwise Br9:=by
 unfold Hm
 rw[Kl (c,l,()) hl]
 simp only[Bool.and_eq_true,Bool.not_eq_true',decide_eq_false_iff_not,Bj,Bgb]
 constructor
 .rintro⟨h1,h2,h3,h4⟩;exact⟨h1,by omega,by omega,h4⟩
 .rintro⟨h1,h2,h3,h4⟩;exact⟨h1,by omega,by omega,h4⟩
theorem Bgc {l:List Ak} {s:List YB} (h:Fr l s<0): ∀x∈l,Dz x.2.2.1 s=false:=fun x hx=>by
 obtain⟨i,hi⟩:=List.getElem?_of_mem hx
 cases hs:Dz x.2.2.1 s with
 |false=>rfl
 |true=>
  have:=(Aeo (q:=fun y:Ak=>Dz y.2.2.1 s) hi hs).1
  unfold Fr at h
  omega
theorem Bm5 {l:List Ak} {i:Nat} {x:Ak} {s:List YB} (hx:l[i]? =some x) (hs:Dz x.2.2.1 s=true) (hb: ∀j y,j<i->l[j]? =some y->Dz y.2.2.1 s=false):Fr l s=(i:Int):=by
 have h1:=Aeo (q:=fun y:Ak=>Dz y.2.2.1 s) hx hs
 have h2:=Awn (q:=fun y:Ak=>Dz y.2.2.1 s) hx hs
 have h3:D6 (fun _ (y:Ak)=>Dz y.2.2.1 s) (l.take i)=true:=G8.2 fun j y hj=>by
  rw[List.getElem?_take]at hj
  split at hj
  .rename_i hlt;exact hb j y hlt hj
  .cases hj
 rw[h3]at h2
 simp only[Bool.not_true,decide_eq_false_iff_not]at h2
 unfold Fr
 omega
theorem Bj6 {l:List Ak} {x:Ak}:Fa (l++[x])=Fa l+(if C4 x=true then 0 else 1):=by
 unfold Fa
 rw[List.countP_append]
 cases h:C4 x<;>simp[List.countP_cons,h]
def Bo1 (t:Cj) (s:Ak) (x:Cj) (co:Int):Prop:=
 (co≠0->x=t)/\(co=0->Hm t=true/\Cs s=true/\C4 s=false/\Fr t.2.1 s.2.2.1<0/\D0 t≠t.1/\t.2.1.length≠12/\x=(t.1,t.2.1++[s],()))
theorem Bj7 (t:Cj) (s:Ak) (h:Co t+A5 s<=1073741824):Tot (fun r=>Bo1 t s r.1 r.2.1) (Ut t s):=by
 have hl:t.2.1.length<=Co t:=by simp only[Co];omega
 unfold Ut Abk
 simp only[Af,Ag,Aa,Aj]
 rw[Aio t zq0,Ae,Amg t zq0,Ae,Sa s zq0,Aac t _ zq0,Bcg t zq0,Mx s zq0]
 simp only[Ae]
 have no: ∀c:Int,c≠0->Tot (fun r:Cj×YI=>Bo1 t s r.1 r.2.1) (some (t,(c,()))):=fun c hc=>Ah ⟨fun _=>rfl,fun h=>(hc h).elim⟩
 refine An (fun _=>no 1 zq7) fun h1=>An (fun _=>no 1 zq7) fun h2=>An (fun _=>no 1 zq7) fun h3=>An (fun _=>no 3 zq7) fun h4=>An (fun _=>no 7 zq7) fun h5=>An (fun _=>no 7 zq7) fun h6=>?_
 refine Ej zq1 (Ah ⟨fun h=>(h rfl).elim,fun _=>?_⟩)
 simp only[Bool.not_eq_false',decide_eq_false_iff_not]at h1 h2 h4
 refine⟨h1,h2,h3,by omega,by simpa using h5,?_,rfl⟩
 intro e
 rw[e]at h6
 simp at h6
theorem Bm6 {t:Cj} {s:Ak} {x:Cj} {co:Int} (hl:t.2.1.length<=4294967296) (h:Bo1 t s x co) (hc:co=0):Hm x=true/\D0 x=D0 t+1/\Fr x.2.1 s.2.2.1=(t.2.1.length:Int)/\D0 t<t.1:=by
 obtain⟨h1,h2,h3,h4,h5,h6,rfl⟩:=h.2 hc
 obtain⟨c,l,⟨⟩⟩:=t
 dsimp only at hl h1 h4 h5 h6 ⊢
 obtain⟨q1,q2,q3,q4,q5⟩:=(Ach hl).1 h1
 have hl2:(l++[s]).length<=4294967296:=by simp;omega
 have e1:D0 (c,l,())=((Fa l:Nat):Int):=Kl (c,l,()) hl
 have e2:D0 (c,l++[s],())=((Fa (l++[s]):Nat):Int):=Kl (c,l++[s],()) hl2
 have h5:D0 (c,l,())≠c:=h5
 have e3:Fa (l++[s])=Fa l+1:=by rw[Bj6,h3];rfl
 have hnone:=Bgc h4
 refine⟨(Ach hl2).2 ⟨q1,by simp;omega,by rw[e3];omega,fun x hx=>?_,?_⟩,(show D0 (c,l++[s],())=D0 (c,l,())+1 by rw[e1,e2,e3];omega),?_,(show D0 (c,l,())<c by rw[e1]at h5 ⊢;omega)⟩
 .rcases List.mem_append.1 hx with hx|hx
  .exact q4 x hx
  .simp at hx;rw[hx];exact h2
 .refine List.pairwise_append.2 ⟨q5,List.pairwise_singleton _ _,fun a ha b hb=>?_⟩
  simp at hb;subst hb
  exact hnone a ha
 .refine Bm5 (x:=s) zq3 (Kk _) fun j y hj hy=>?_
  rw[List.getElem?_append_left hj]at hy
  exact hnone y (List.mem_of_getElem? hy)
theorem Bo2 {s:Ak} {c:Ap} {p:Bn} (h:Cs s=true) (hd:C4 s=false) (hc:Ci c=true) (h1:c.1=(Cm s).1) (h2:c.2.1=(Cm s).2.1) (hp:D7 p=true):
  Cs (s.1,s.2.1,s.2.2.1,c.1,c.2.1,c.2.2.1,c.2.2.2.1,c.2.2.2.2.1,c.2.2.2.2.2.1,c.2.2.2.2.2.2.1,c.2.2.2.2.2.2.2.1,c.2.2.2.2.2.2.2.2.1,c.2.2.2.2.2.2.2.2.2.1,c.2.2.2.2.2.2.2.2.2.2.1,c.2.2.2.2.2.2.2.2.2.2.2.1,c.2.2.2.2.2.2.2.2.2.2.2.2.1,c.2.2.2.2.2.2.2.2.2.2.2.2.2.1,c.2.2.2.2.2.2.2.2.2.2.2.2.2.2.1,p.1,p.2.1,p.2.2.1,Au7 s,Xu s,C4 s,())=true:=by
 obtain⟨q1,q2,q3,q4,q5,q6,q7,q8,q9⟩:=Tp h hd
 obtain⟨c0,c1,c2,c3,c4,c5,c6,c7,c8,c9,c10,c11,c12,c13,c14,⟨⟩⟩:=c
 obtain⟨p0,p1,p2,⟨⟩⟩:=p
 rw[hd]
 have h1:c0=s.2.2.2.1:=h1
 have h2:c1=s.2.2.2.2.1:=h2
 exact Sf q1 q2 q3 hc (h1.trans q6) (by rw[h2];exact q7) hp q4 q9
def TP (M K:Nat) (t:Cj):Prop:=t.2.1.length<=M/\ ∀x∈t.2.1,SP K x
theorem SP.le {K N:Nat} {s:Ak} (h:SP K s) (hk:K<=N):SP N s:=⟨Nat.le_trans h.1 hk,h.2⟩
theorem Bqy {l:List Ak} {K:Nat} (h: ∀x∈l,SP K x):Bu A5 l<=l.length*K:=by
 induction l with
 |nil=>simp[Bu]
 |cons a r ih=>
  have h1:=(h a zq3).1
  have h2:=ih (fun x hx=>h x (by simp[hx]))
  simp only[Bu,List.length_cons,Nat.succ_mul];omega
theorem TP.need {M K:Nat} {t:Cj} (h:TP M K t):Co t<=M+M*K:=by
 have h1:=Bqy h.2
 have h2:=Nat.mul_le_mul_right K h.1
 have h3:=h.1
 simp only[Co];omega
theorem TP.le {M K M' K':Nat} {t:Cj} (h:TP M K t) (h1:M<=M') (h2:K<=K'):TP M' K' t:=⟨Nat.le_trans h.1 h1,fun x hx=>(h.2 x hx).le h2⟩
theorem A04 {l:List Ak} {i:Nat} {y x:Ak} (h:x∈l.set i y):x∈l\/x=y:=List.mem_or_eq_of_mem_set h
theorem Avs {M K:Nat} (t:Cj) (s:Ak) (ht:TP M K t) (hs:SP K s) (hb:M+M*K+K<=1073741824):Tot (fun r=>TP (M+1) K r.1) (Qo t s):=by
 have hn:=ht.need
 have hs1:=hs.1
 obtain⟨r,b,e1,e2,_⟩:=A3y t s zq0
 obtain⟨⟨r',b',⟨⟩⟩,e3,h1,h2⟩:=Bj7 t s zq0
 rw[e1]at e3
 simp only[Option.some.injEq,Prod.mk.injEq,and_true]at e3
 obtain⟨rfl,rfl⟩:=e3
 refine⟨_,e2,?_⟩
 by_cases hc:b=0
 .obtain⟨_,_,_,_,_,_,e⟩:=h2 hc
  dsimp only at e ⊢
  subst e
  refine⟨by have:=ht.1;simp;omega,fun x hx=>?_⟩
  rcases List.mem_append.1 hx with hx|hx
  .exact ht.2 x hx
  .simp at hx;rw[hx];exact hs
 .have e:r=t:=h1 hc
  subst e
  exact ht.le zq0 (Nat.le_refl _)
theorem A38 (n:YI):Tot (fun r=>r.2.1.length=0) (O6 n):=by
 obtain⟨r,_,e,h⟩:=A76 n
 refine⟨r,e,?_⟩
 simp only[Co]at h;omega
theorem Bgd {b:List YB} {a0:Aw} (hc:Bv b a0):Tot (fun r=>TP 6 20000 r.1/\Bv b r.2) (Uo a0):=by
 unfold Uo Aa7
 simp only[Af,Ag,Aa,Aj]
 refine Ad (Bf _ hc zq7) (fun r1 ⟨_,h1c⟩=>?_)
 refine Ad (A38 _) (fun r2 h2=>?_)
 refine Ad (Bf _ (Ab hc h1c) zq7) (fun r3 ⟨h3,h3c⟩=>?_)
 have h3b:0<=r3.1.1/\r3.1.1<6:=⟨h3.1,by rcases h3.2 with q|q<;>omega⟩
 refine Ad (Q:=fun o:(List YB)×Int×Int×Int×(List Ak)×Int×(List Ak)×Unit=>TP 6 20000 (o.2.2.2.2.2.1,o.2.2.2.2.2.2.1,())/\Bv b (o.1,o.2.1,o.2.2.1,())) ?_ (fun o ho=>Ah ⟨ho.1,ho.2⟩)
 refine X7 (fun i d=>d.1=r3.1.1-(i:Int)/\TP i 20000 (d.2.2.2.2.2.2.1,d.2.2.2.2.2.2.2.1,())/\d.2.1=a0.1/\Bv b (d.2.1,d.2.2.1,d.2.2.2.1,())) _ r3.1.1.toNat ?_ ?_ ⟨by omega,⟨by show r2.2.1.length<=0;omega,fun x hx=>by have:r2.2.1=[]:=List.eq_nil_of_length_eq_zero h2;rw[this]at hx;cases hx⟩,rfl,Ab hc h3c⟩
 .rintro i ⟨n,c1,c2,c3,z,zl,cap,l,⟨⟩⟩ hi ⟨q1,q2,q3,q4⟩
  dsimp only at q1 q2 q3 q4
  subst q1 q3
  unfold L5
  simp only[Af,Ag,Aa,Aj]
  rw[Al zq0,A9]
  have hnext:IntKind.i64.wrap (r3.1.1-(i:Int)-1)=r3.1.1-((i+1:Nat):Int):=by rw[w64 zq0];omega
  refine Ad (Aza q4) (fun r5 ⟨h5,h5c⟩=>?_)
  have h5s:SP 20000 r5.1:=h5.le zq7
  refine Ad (Avs (M:=i) (K:=20000) _ _ q2 h5s zq0) (fun r6 h6=>?_)
  refine An (fun hp=>?_) (fun _=>?_)
  .simp only[decide_eq_true_eq]at hp
   refine Ad (Az _ (Ab hc h5c) zq7) (fun r7 h7c=>?_)
   refine An (fun _=>?_) (fun _=>?_)
   .have h6l:=h6.1
    refine Ad (Bf _ (Ab hc h7c) zq2) (fun r8 ⟨h8,h8c⟩=>?_)
    have h8b:0<=r8.1.1/\r8.1.1<(r6.1.2.1.length:Int):=⟨h8.1,by rcases h8.2 with q|q<;>(try dsimp only at q)<;>omega⟩
    refine Ad (E7 h8b.1 h8b.2 (fun x hx=>h6.2 x hx)) (fun e9 h9=>?_)
    refine Ad (A8n _ h9 zq7) (fun r10 h10=>?_)
    refine Ad (E7 h8b.1 h8b.2 (fun x hx=>h6.2 x hx)) (fun e11 h11=>?_)
    refine Ah ⟨_,rfl,hnext,⟨by simpa using h6.1,fun x hx=>?_⟩,rfl,Ab hc h8c⟩
    rcases A04 hx with hx|hx
    .exact h6.2 x hx
    .rw[hx];exact h10
   .exact Ah ⟨_,rfl,hnext,h6,rfl,Ab hc h7c⟩
  .exact Ah ⟨_,rfl,hnext,h6,rfl,Ab hc h5c⟩
 .rintro⟨n,c1,c2,c3,z,zl,cap,l,⟨⟩⟩ ⟨q1,q2,q3,q4⟩
  dsimp only at q1 q2 q3 q4
  unfold L5
  simp only[Af,Ag,Aa,Aj]
  rw[Bp zq0,Ao]
  exact Ah ⟨_,rfl,q2.le zq0 (Nat.le_refl _),q4⟩
theorem Bdh (l:List Am) (a:A6) (h:l.length<=4294967296):Tot (fun _=>True) (Ng (l,()) a):=by
 have hp:=Awo (q:=fun x:Am=>eqA x.1 x.2.1 a.1 a.2.1) (l:=l)
 unfold Ng Ue
 simp only[Af,Ag,Aa]
 rw[Aad l a h,Ae,Ku l h,Ae]
 refine An (fun _=>Ah trivial) (fun _=>An (fun _=>Ah trivial) (fun hg=>?_))
 simp only[decide_eq_false_iff_not]at hg
 refine Ad (E7 (P:=fun _=>True) zq0 hp.2 (fun _ _=>trivial)) (fun e3 _=>?_)
 exact Ad (E7 (P:=fun _=>True) zq0 hp.2 (fun _ _=>trivial)) (fun e4 _=>Ah trivial)
theorem Bj8 (l:List Am) (a:A6) (n:YI) (h:l.length<=1000):Tot (fun r=>r.1.1.length<=l.length) (Rt (l,()) a n):=by
 have hp:=Awo (q:=fun x:Am=>eqA x.1 x.2.1 a.1 a.2.1) (l:=l)
 unfold Rt Ahz
 simp only[Af,Ag,Aa,Aj,List.length_nil,List.nil_append,Nat.zero_add]
 refine Ej (Al zq0) ?_
 rw[Aad l a zq0,Ae,Ku l zq0,Ae]
 have no:Tot (fun r:((List Am)×Unit)×(Bool×Unit)=>r.1.1.length<=l.length) (some ((l,()),(false,()))):=Ah (Nat.le_refl _)
 refine An (fun _=>no) (fun hg=>An (fun _=>no) (fun _=>?_))
 simp only[decide_eq_false_iff_not]at hg
 refine Ad (Bdh l a zq0) (fun r3 _=>?_)
 rw[Cq,Ae]
 refine An (fun _=>no) (fun _=>?_)
 refine Ad (E7 (P:=fun _=>True) zq0 hp.2 (fun _ _=>trivial)) (fun e3 _=>?_)
 exact Ad (E7 (P:=fun _=>True) zq0 hp.2 (fun _ _=>trivial)) (fun e4 _=>Ah zq3)
theorem Bm7 (l:List Am) (a:A6) (n:YI) (h:l.length<=1000):Tot (fun r=>r.1.length<=l.length+1) (Agn (l,()) a n):=by
 have hp:=Awo (q:=fun x:Am=>eqA x.1 x.2.1 a.1 a.2.1) (l:=l)
 unfold Agn An3
 simp only[Af,Ag,Aa,Aj,List.length_nil,List.nil_append,Nat.zero_add]
 refine Ej (Al zq0) ?_
 rw[Ku l zq0,Ae,Iv,Ae,Cq,Ae,Aad l a zq0,Ae]
 have no:Tot (fun r:(List Am)×Unit=>r.1.length<=l.length+1) (some (l,())):=Ah zq3
 refine An (fun _=>no) (fun _=>An (fun _=>no) (fun _=>An (fun _=>no) (fun _=>?_)))
 refine An (fun _=>An (fun _=>no) (fun _=>Ej (Al zq1) (Ah zq3))) (fun hg=>?_)
 simp only[decide_eq_false_iff_not]at hg
 refine Ad (E7 (P:=fun _=>True) zq0 hp.2 (fun _ _=>trivial)) (fun e3 _=>?_)
 refine Ad (E7 (P:=fun _=>True) zq0 hp.2 (fun _ _=>trivial)) (fun e4 _=>?_)
 refine Ad (E7 (P:=fun _=>True) zq0 (by rw[List.length_set];exact hp.2) (fun _ _=>trivial)) (fun e8 _=>?_)
 refine An (fun _=>?_) (fun _=>Ah zq3)
 exact Ad (E7 (P:=fun _=>True) zq0 (by rw[List.length_set];exact hp.2) (fun _ _=>trivial)) (fun e9 _=>Ah zq3)
theorem Bge {b:List YB} {a0:Aw} (n:YI) (hc:Bv b a0) (hn:0<=n.1/\n.1<=20):Tot (fun r=>r.1.1.length<=21/\Bv b r.2) (Up a0 n):=by
 unfold Up Aa8
 simp only[Af,Ag,Aa,Aj]
 rw[w64 zq0]
 refine Ad (Bf _ hc zq2) (fun r1 ⟨h1,h1c⟩=>?_)
 have h1b:0<=r1.1.1/\r1.1.1<=20:=⟨h1.1,by rcases h1.2 with q|q<;>(try dsimp only at q)<;>omega⟩
 refine Ad (Q:=fun o:(List Am)×(List YB)×Int×Int×Unit=>o.1.length<=21/\Bv b (o.2.1,o.2.2.1,o.2.2.2.1,())) ?_ (fun o ho=>Ah ho)
 refine X7 (fun i d=>d.2.1=r1.1.1-(i:Int)/\d.1.length<=i/\d.2.2.1=a0.1/\Bv b (d.2.2.1,d.2.2.2.1,d.2.2.2.2.1,())) _ r1.1.1.toNat ?_ ?_ ⟨by dsimp only;omega,by simp,rfl,Ab hc h1c⟩
 .rintro i ⟨l,k,c1,c2,c3,⟨⟩⟩ hi ⟨q1,q2,q3,q4⟩
  dsimp only at q1 q2 q3 q4
  subst q1 q3
  unfold L6
  simp only[Af,Ag,Aa,Aj]
  rw[Al zq0,A9]
  refine Ad (Bf _ q4 zq7) (fun r3 ⟨_,h3c⟩=>?_)
  refine Ad (Pg _) (fun r4 _=>?_)
  refine Ad (Jk _ (Ab hc h3c) zq7) (fun r5 h5c=>?_)
  refine Ad (Bm7 l _ _ zq0) (fun r6 h6=>?_)
  refine Ad (Jk _ (Ab hc h5c) zq7) (fun r7 h7c=>?_)
  refine Ad (show Tot _ (Rt (r6.1,()) r4 r7.1)from Bj8 r6.1 _ _ zq0) (fun r8 h8=>?_)
  refine Ah ⟨_,rfl,?_,by dsimp only;omega,rfl,(show Bv b (a0.1,r7.2.2.1,r7.2.2.2.1,())from Ab hc h7c)⟩
  dsimp only;rw[w64 zq0];omega
 .rintro⟨l,k,c1,c2,c3,⟨⟩⟩ ⟨q1,q2,q3,q4⟩
  dsimp only at q1 q2 q3 q4
  unfold L6
  simp only[Af,Ag,Aa,Aj]
  rw[Bp zq0,Ao]
  exact Ah ⟨_,rfl,by dsimp only;omega,q4⟩
theorem Bgf {b:List YB} {a0:Aw} (hc:Bv b a0):Tot (fun r=>(r.1.1.length<=3/\ ∀x∈r.1.1,x.1.length<=32)/\Bv b r.2) (Uk a0):=by
 unfold Uk Aay
 simp only[Af,Ag,Aa,Aj]
 refine Ad (Bf _ hc zq7) (fun r1 ⟨h1,h1c⟩=>?_)
 have h1b:0<=r1.1.1/\r1.1.1<3:=⟨h1.1,by rcases h1.2 with q|q<;>(try dsimp only at q)<;>omega⟩
 rw[w64 zq0]
 refine Ad (Q:=fun o:(List YBs)×(List YB)×Int×Int×Unit=>(o.1.length<=3/\ ∀x∈o.1,x.1.length<=32)/\Bv b (o.2.1,o.2.2.1,o.2.2.2.1,())) ?_ (fun o ho=>Ah ho)
 refine X7 (fun i d=>d.2.1=1+r1.1.1-(i:Int)/\(d.1.length<=i/\ ∀x∈d.1,x.1.length<=32)/\d.2.2.1=a0.1/\Bv b (d.2.2.1,d.2.2.2.1,d.2.2.2.2.1,())) _ (1+r1.1.1).toNat ?_ ?_ ⟨by dsimp only;omega,⟨by simp,fun x hx=>by cases hx⟩,rfl,Ab hc h1c⟩
 .rintro i ⟨l,k,c1,c2,c3,⟨⟩⟩ hi ⟨q1,q2,q3,q4⟩
  dsimp only at q1 q2 q3 q4
  subst q1 q3
  unfold Lz
  simp only[Af,Ag,Aa,Aj]
  rw[Al zq0,A9]
  refine Ad (Bf _ q4 zq7) (fun r3 ⟨h3,h3c⟩=>?_)
  have h3b:0<=r3.1.1/\r3.1.1<32:=⟨h3.1,by rcases h3.2 with q|q<;>(try dsimp only at q)<;>omega⟩
  refine Ad (C0 _ (Ab hc h3c) (by dsimp only;rw[w64 zq0];omega)) (fun r4 ⟨⟨h4,_⟩,h4c⟩=>?_)
  dsimp only at h4
  rw[w64 zq0]at h4
  refine Ej (Al zq1) (Ah ⟨_,rfl,?_,⟨by simp;omega,fun x hx=>?_⟩,rfl,(show Bv b (a0.1,r4.2.2.1,r4.2.2.2.1,())from Ab hc h4c)⟩)
  .dsimp only;rw[w64 zq0];omega
  .dsimp only at hx
   rcases List.mem_append.1 hx with hx|hx
   .exact q2.2 x hx
   .simp only[List.mem_singleton]at hx
    rw[hx];omega
 .rintro⟨l,k,c1,c2,c3,⟨⟩⟩ ⟨q1,q2,q3,q4⟩
  dsimp only at q1 q2 q3 q4
  unfold Lz
  simp only[Af,Ag,Aa,Aj]
  rw[Bp zq0,Ao]
  exact Ah ⟨_,rfl,⟨by dsimp only;omega,q2.2⟩,q4⟩
def PP (M:Nat) (l:List YBs):Prop:=l.length<=M/\ ∀x∈l,x.1.length<=32
theorem PP.sum {M:Nat} {l:List YBs} (h:PP M l):Bu E6 l<=M*32:=by
 have key: ∀l:List YBs,(∀x∈l,x.1.length<=32)->Bu E6 l<=l.length*32:=by
  intro l
  induction l with
  |nil=>intro _;simp[Bu]
  |cons a r ih=>
   intro h
   have h1:=h a zq3
   have h2:=ih (fun x hx=>h x (by simp[hx]))
   simp only[Bu,E6,List.length_cons];omega
 have h1:=key l h.2
 have h2:=h.1
 omega
def SvP (s:Bs):Prop:=PP 10 s.1/\s.2.1.length<=64/\s.2.2.1.length<=64/\TP 40 40000 (s.2.2.2.2.1,s.2.2.2.2.2.1,())/\s.2.2.2.2.2.2.1.length<=40
theorem SvP.need {s:Bs} (h:SvP s):Br s<=2000000:=by
 obtain⟨h1,h2,h3,h4,h5⟩:=h
 have e1:=h1.sum
 have e2:=h1.1
 have e3:=h4.need
 have e4:=h4.1
 simp only[Co]at e3
 simp only[Br]
 dsimp only at e4
 omega
theorem A6c (ps:List YBs×Unit) (sd:YBs) (n:YI) (hp:PP 5 ps.1) (hs:sd.1.length<=32):Tot (fun r=>PP 5 r.1/\r.2.1.length<=32/\r.2.2.1.length<=32/\r.2.2.2.2.2.1.length=0) (Pz ps sd n):=by
 obtain⟨t,ht1,ht2,ht3⟩:=A76 n
 have h1:=Bcw (sd.1,(0:Int),())
 have h2:=Bjo (G5 (sd.1,(0:Int),())).2
 have h3:=hp.sum
 have h4:=hp.1
 simp only[Co]at ht3
 unfold Pz U7
 simp only[Af,Ag,Aa]
 rw[Bmg _ zq2]
 simp only[Ae,Bcx,ht2]
 rw[A8e ps.1 zq0]
 simp only[Ae]
 have hn:Br (ps.1,Xy (G5 (sd.1,(0:Int),())).2,(G5 (sd.1,(0:Int),())).1.1,(G5 (sd.1,(0:Int),())).1.2.1,t.1,t.2.1,[],())<=1000:=by
  simp only[Br,h1,List.length_nil];omega
 rw[A3x _ zq0]
 simp only[Ae]
 refine An (fun _=>?_) (fun _=>?_)
 .exact Ah ⟨⟨by simp,fun x hx=>by cases hx⟩,by simp,by simp,rfl⟩
 .exact Ah ⟨hp,h2,by rw[h1];exact hs,by dsimp only;omega⟩
theorem Bgg {b:List YB} {a0:Aw} (hc:Bv b a0):Tot (fun r=>(PP 5 r.1.1/\r.1.2.1.length<=64/\r.1.2.2.1.length<=64/\TP 30 20000 (r.1.2.2.2.2.1,r.1.2.2.2.2.2.1,())/\r.1.2.2.2.2.2.2.1.length<=40)/\Bv b r.2) (Uq a0):=by
 unfold Uq Aa9
 simp only[Af,Ag,Aa,Aj]
 refine Ad (Bgf hc) (fun r1 ⟨h1,h1c⟩=>?_)
 refine Ad (C0 _ (Ab hc h1c) zq7) (fun r2 ⟨⟨h2,_⟩,h2c⟩=>?_)
 refine Ad (Bf _ (Ab hc h2c) zq7) (fun r3 ⟨_,h3c⟩=>?_)
 have h2':r2.1.1.length=8:=h2
 refine Ad (A6c _ _ _ ⟨by omega,h1.2⟩ zq0) (fun r4 ⟨h4a,h4b,h4c,h4d⟩=>?_)
 refine Ad (Bgd (Ab hc h3c)) (fun r5 ⟨h5,h5c⟩=>?_)
 refine Ad (Q:=fun o:(List YB)×Int×Int×(List YBs)×(List YB)×(List YB)×Int×Int×(List Ak)×(List Am)×(List YBs)×(List YB)×(List YB)×Int×Int×(List Ak)×(List Am)×Unit=>(PP 5 o.2.2.2.2.2.2.2.2.2.2.1/\o.2.2.2.2.2.2.2.2.2.2.2.1.length<=32/\o.2.2.2.2.2.2.2.2.2.2.2.2.1.length<=32/\TP 6 20000 (o.2.2.2.2.2.2.2.2.2.2.2.2.2.2.1,o.2.2.2.2.2.2.2.2.2.2.2.2.2.2.2.1,()))/\o.1=a0.1/\Bv b (o.1,o.2.1,o.2.2.1,())) ?_ (fun o ⟨⟨o1,o2,o3,o4⟩,o5,o6⟩=>?_)
 .have h5l:=h5.1
  refine X7 (fun i d=>d.1=(i:Int)/\d.2.2.2.2.2.2.2.2.2.2.2.2.2.2.2.2.2.2.2.1=r5.1.2.1/\(PP 5 d.2.2.2.2.2.2.2.2.2.2.2.1/\d.2.2.2.2.2.2.2.2.2.2.2.2.1.length<=32/\d.2.2.2.2.2.2.2.2.2.2.2.2.2.1.length<=32/\TP i 20000 (d.2.2.2.2.2.2.2.2.2.2.2.2.2.2.2.1,d.2.2.2.2.2.2.2.2.2.2.2.2.2.2.2.2.1,()))/\d.2.1=a0.1/\Bv b (d.2.1,d.2.2.1,d.2.2.2.1,())) _ r5.1.2.1.length ?_ ?_ ⟨rfl,rfl,⟨h4a,h4b,h4c,⟨by dsimp only;omega,fun x hx=>by have:r4.2.2.2.2.2.1=[]:=List.eq_nil_of_length_eq_zero h4d;dsimp only at hx;rw[this]at hx;cases hx⟩⟩,rfl,Ab hc h5c⟩
  .rintro i ⟨k,c1,c2,c3,z0,z1,z2,z3,z4,z5,z6,s0,s1,s2,s3,s4,s5,s6,tc,tl,⟨⟩⟩ hi ⟨q1,q2,⟨q3,q4,q5,q6⟩,q7,q8⟩
   dsimp only at q1 q2 q3 q4 q5 q6 q7 q8
   subst q1 q2 q7
   unfold L7
   simp only[Af,Ag,Aa,Aj]
   rw[Al zq0,A9]
   have hnx:IntKind.i64.wrap ((i:Int)+1)=((i+1:Nat):Int):=by rw[w64 zq0];omega
   have at_: ∀ {β:Type} {P:β->Prop} {f:Ak->Option β},(∀e,SP 20000 e->Tot P (f e))->Tot P (ob (idx r5.1.2.1 (i:Int)) f):=fun hf=>Ad (E7 zq0 zq0 (fun x hx=>h5.2 x hx)) (fun e he=>hf e he)
   refine at_ fun e7 h7=>An (fun _=>?_) (fun _=>?_)
   .refine at_ fun e8 h8=>Ad (Avs (M:=i) (K:=20000) _ _ q6 h8 zq0) (fun r9 h9=>?_)
    exact Ah ⟨_,rfl,hnx,rfl,⟨q3,q4,q5,h9⟩,rfl,q8⟩
   .exact Ah ⟨_,rfl,hnx,rfl,⟨q3,q4,q5,q6.le zq0 (Nat.le_refl _)⟩,rfl,q8⟩
  .rintro⟨k,c1,c2,c3,z0,z1,z2,z3,z4,z5,z6,s0,s1,s2,s3,s4,s5,s6,tc,tl,⟨⟩⟩ ⟨q1,q2,⟨q3,q4,q5,q6⟩,q7,q8⟩
   dsimp only at q1 q2 q3 q4 q5 q6 q7 q8
   subst q1 q2
   unfold L7
   simp only[Af,Ag,Aa,Aj]
   rw[Bp zq0,Ao]
   exact Ah ⟨_,rfl,⟨q3,q4,q5,q6.le zq0 (Nat.le_refl _)⟩,q7,q8⟩
 .refine Ad (Bge ((6:Int),()) o6 zq7) (fun r11 ⟨h11,h11c⟩=>?_)
  refine Ad (Bf _ (Ab o6 h11c) zq7) (fun r12 ⟨_,h12c⟩=>?_)
  exact Ah ⟨⟨o1,by dsimp only;omega,by dsimp only;omega,o4.le zq7 zq7,by dsimp only;omega⟩,Ab o6 h12c⟩
def Fw (s:Bs):Cj:=(s.2.2.2.2.1,s.2.2.2.2.2.1,())
theorem Eh {s:Bs}:Fg s=true↔inR (s.1.length:Int) 1 9=true/\((s.2.1.length:Int)==32)=true/\F0 (s.2.2.1,s.2.2.2.1,())=true/\Hm (s.2.2.2.2.1,s.2.2.2.2.2.1,())=true/\Cg s.2.2.2.2.2.2.1=true/\D6 (fun _ x=> !G7 x) s.1=true/\ ∀x∈s.2.2.2.2.2.1,x.1<=(s.1.length:Int):=by
 have key:D6 (fun _ (x:Ak)=>decide (x.1>(s.1.length:Int))) s.2.2.2.2.2.1=true↔ ∀x∈s.2.2.2.2.2.1,x.1<=(s.1.length:Int):=by
  rw[G8]
  constructor
  .intro h x hx
   obtain⟨j,hj⟩:=List.getElem?_of_mem hx
   have:=h j x hj
   simp only[decide_eq_false_iff_not]at this
   omega
  .intro h j x hj
   have:=h x (List.mem_of_getElem? hj)
   simp only[decide_eq_false_iff_not]
   omega
 unfold Fg
 simp only[Bool.and_eq_true,key]
theorem Bqz (b:List YB) (n:Int) (hl:b.length<=1073741824):Ff (b,()) (n,()) ((2:Int),())=some (b++Fk n 2 2,()):=Bck b n 2 zq0 zq0 hl
theorem Bq0 (b:List YB) (n:Int) (hl:b.length<=1073741824):Ep (b,()) (n,()) ((2:Int),())=some (b++Fk n 2 2,()):=A3s b n 2 zq0 zq0 hl
theorem A8o {s:List YB} {n:Int} (h:F0 (s,n,())=true):(Oe s n).length=12:=by
 unfold F0 at h
 simp only[Bool.and_eq_true]at h
 have h1:=Bj.1 h.1
 unfold Oe
 rw[if_pos ⟨h.1,h.2⟩,List.length_take,Od _ _ zq0 (by simp[Aiq,Gd])]
 decide
theorem Bm8 {r:List YB} (h:r.length=12):(Xy r).length=32:=by
 unfold Xy
 rw[if_pos h]
 unfold Gg Nk
 rw[if_pos ⟨by decide,by omega⟩]
 exact Od _ _ zq0 zq7
end
end Go.Proofs.YtnbbbaplphcebaaGreat

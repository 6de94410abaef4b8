/-
  That the program and the reference answer alike, in plain terms, and that the laws answer true.
-/
import Derived.Test.YtnbbbaplphcebaaGreatG4
namespace Go.Proofs.YtnbbbaplphcebaaGreat
open Go.RowKit
set_option linter.unusedVariables false
set_option linter.unusedSimpArgs false
set_option maxRecDepth 100000
set_option maxHeartbeats 8000000
noncomputable section
def Ag7 (x:Am):Prop:=Ck (x.1,x.2.1,())=true/\(0<=x.2.2.1/\x.2.2.1<=1000000)/\(0<=x.2.2.2.1/\x.2.2.2.1<=3*x.2.2.1)
def Bm9 (a b:Am):Prop:=eqA a.1 a.2.1 b.1 b.2.1=false
theorem Dd {l:List Am}:Cg l=true↔l.length<=8/\(∀x∈l,Ag7 x)/\l.Pairwise Bm9:=by
 have hq: ∀(i:Nat) (x:Am),l[i]? =some x->(Tk l i x=false↔Ag7 x/\D6 (fun _ (y:Am)=>eqA y.1 y.2.1 x.1 x.2.1) (l.take i)=true):=fun i x hx=>by
  unfold Tk C5 Ag7
  rw[Awn (q:=fun y:Am=>eqA y.1 y.2.1 x.1 x.2.1) hx (Bci _ _)]
  simp only[Bool.not_not,Bool.not_eq_false',Bool.and_eq_true,Bj]
  constructor
  .rintro⟨h1,h2,h3,h4⟩
   rw[w64 zq0]at h3
   exact⟨⟨h1,h2,h3⟩,h4⟩
  .rintro⟨⟨h1,h2,h3⟩,h4⟩
   rw[w64 zq0]
   exact⟨h1,h2,h3,h4⟩
 unfold Cg
 simp only[Bool.and_eq_true,Bool.not_eq_true',decide_eq_false_iff_not]
 rw[G8,List.pairwise_iff_getElem]
 constructor
 .rintro⟨h0,h⟩
  refine⟨by omega,fun x hx=>?_,fun i j hi hj hij=>?_⟩
  .obtain⟨j,hj⟩:=List.getElem?_of_mem hx
   exact((hq j x hj).1 (h j x hj)).1
  .have h1:=((hq j l[j] (List.getElem?_eq_getElem hj)).1 (h j l[j] (List.getElem?_eq_getElem hj))).2
   rw[G8]at h1
   exact h1 i l[i] (by rw[List.getElem?_take,if_pos hij];exact List.getElem?_eq_getElem hi)
 .rintro⟨h0,h1,h2⟩
  refine⟨by omega,fun j x hj=>(hq j x hj).2 ⟨h1 x (List.mem_of_getElem? hj),G8.2 fun i y hi=>?_⟩⟩
  rw[List.getElem?_take]at hi
  split at hi
  .rename_i hlt
   obtain⟨k1,k2⟩:=List.getElem?_eq_some_iff.1 hi
   obtain⟨k3,k4⟩:=List.getElem?_eq_some_iff.1 hj
   have:=h2 i j k1 k3 hlt
   rw[k2,k4]at this
   exact this
  .cases hi
theorem Avt {l:List Am} {a:A6} (h:0<=C5 l a): ∃x,l[(C5 l a).toNat]? =some x/\x.1=a.1/\x.2.1=a.2.1:=by
 unfold C5 Lw at h ⊢
 cases hf:Ih (fun _ (x:Am)=>eqA x.1 x.2.1 a.1 a.2.1) l 0 with
 |none=>rw[hf]at h;simp at h
 |some k=>
  obtain⟨j,y,hk,h2,h3,_⟩:=Sb hf
  have hk:k=j:=by omega
  subst hk
  have h3:=Amo.1 h3
  exact⟨y,by simpa using h2,h3.1,h3.2⟩
theorem Bad {l:List Am} {a:A6} (h:C5 l a<0): ∀x∈l,eqA x.1 x.2.1 a.1 a.2.1=false:=fun x hx=>by
 obtain⟨i,hi⟩:=List.getElem?_of_mem hx
 cases hs:eqA x.1 x.2.1 a.1 a.2.1 with
 |false=>rfl
 |true=>
  have:=(Aeo (q:=fun y:Am=>eqA y.1 y.2.1 a.1 a.2.1) hi hs).1
  unfold C5 at h
  omega
theorem Bdi {l:List Am} {i:Nat} {x y:Am} (h:Cg l=true) (hx:l[i]? =some x) (h1:y.1=x.1) (h2:y.2.1=x.2.1) (hy:Ag7 y):Cg (l.set i y)=true:=by
 obtain⟨q1,q2,q3⟩:=Dd.1 h
 refine Dd.2 ⟨by simpa using q1,fun z hz=>?_,?_⟩
 .rcases List.mem_or_eq_of_mem_set hz with hz|hz
  .exact q2 z hz
  .rw[hz];exact hy
 .rw[List.pairwise_iff_getElem]at q3 ⊢
  intro a b ha hb hab
  have ha':a<l.length:=by simpa using ha
  have hb':b<l.length:=by simpa using hb
  have hq:=q3 a b ha' hb' hab
  obtain⟨hi,hxi⟩:=List.getElem?_eq_some_iff.1 hx
  have e: ∀(j:Nat) (hj:j<(l.set i y).length) (hj':j<l.length),(l.set i y)[j].1=l[j].1/\(l.set i y)[j].2.1=l[j].2.1:=fun j hj hj'=>by
   rw[List.getElem_set]
   split
   .rename_i hij
    subst hij
    rw[hxi]
    exact⟨h1,h2⟩
   .exact⟨rfl,rfl⟩
  unfold Bm9 at hq ⊢
  rw[(e a ha ha').1,(e a ha ha').2,(e b hb hb').1,(e b hb hb').2]
  exact hq
def Dt:List Am->Int
 |[]=>0
 |x::r=>x.2.2.2.1+Dt r
theorem Ait: ∀ {a b:List Am},Dt (a++b)=Dt a+Dt b
 |[],b=>by simp[Dt]
 |x::a,b=>by simp only[List.cons_append,Dt,Ait];omega
theorem Avu: ∀ {l:List Am} {i:Nat} {x y:Am},l[i]? =some x->Dt (l.set i y)=Dt l-x.2.2.2.1+y.2.2.2.1
 |[],i,x,y,h=>by simp at h
 |a::r,0,x,y,h=>by
  simp at h;subst h
  simp only[List.set_cons_zero,Dt];omega
 |a::r,i+1,x,y,h=>by
  have:=Avu (l:=r) (i:=i) (x:=x) (y:=y) (by simpa using h)
  simp only[List.set_cons_succ,Dt];omega
def Vj (l:List Am) (a:A6) (n:Int):List Am:=
 if Cg l=true/\Ck a=true/\inR n 0 1000000=true then
  if C5 l a<0 then(if l.length=8 then l else l++[(a.1,a.2.1,n,(0:Int),())])
  else match l[(C5 l a).toNat]? with
   |some x=>l.set (C5 l a).toNat (x.1,x.2.1,(if x.2.2.1+n>1000000 then 1000000 else x.2.2.1+n),x.2.2.2.1,())
   |none=>l
 else l
theorem Bdj {l:List Am} {a:A6} {n:Int} (h:Cg l=true):Cg (Vj l a n)=true/\Dt (Vj l a n)=Dt l:=by
 unfold Vj
 split
 .rename_i hc
  obtain⟨c1,c2,c3⟩:=hc
  have c3:=Bj.1 c3
  obtain⟨q1,q2,q3⟩:=Dd.1 h
  split
  .rename_i hneg
   split
   .exact⟨h,rfl⟩
   .refine⟨Dd.2 ⟨by simp;omega,fun x hx=>?_,?_⟩,by rw[Ait];simp[Dt]⟩
    .rcases List.mem_append.1 hx with hx|hx
     .exact q2 x hx
     .simp only[List.mem_singleton]at hx
      rw[hx]
      exact⟨c2,c3,by simp;omega⟩
    .refine List.pairwise_append.2 ⟨q3,List.pairwise_singleton _ _,fun x hx y hy=>?_⟩
     simp only[List.mem_singleton]at hy
     subst hy
     exact Bad hneg x hx
  .rename_i hpos
   obtain⟨x,hx,_,_⟩:=Avt (l:=l) (a:=a) zq0
   rw[hx]
   obtain⟨g1,g2,g3⟩:=q2 x (List.mem_of_getElem? hx)
   refine⟨Bdi h hx rfl rfl ⟨g1,?_,?_⟩,?_⟩
   .dsimp only;split<;>omega
   .dsimp only;split<;>omega
   .rw[Avu hx];dsimp only;omega
 .exact⟨h,rfl⟩
theorem Bna (l:List Am) (a:A6) (n:Int):(Vj l a n).length<=l.length+1:=by
 unfold Vj
 split
 .split
  .split<;>simp
  .split<;>simp
 .omega
def Uz (l:List Am) (a:A6) (n:Int):Option (List Am):=
 if Cg l=true/\0<=C5 l a then
  match l[(C5 l a).toNat]? with
  |some x=>if inR n 0 (3*x.2.2.1-x.2.2.2.1)=true then some (l.set (C5 l a).toNat (x.1,x.2.1,x.2.2.1,x.2.2.2.1+n,()))else none
  |none=>none
 else none
theorem A8p {l r:List Am} {a:A6} {n:Int} (h:Uz l a n=some r):Cg l=true/\Cg r=true/\Dt r=Dt l+n/\r.length=l.length:=by
 unfold Uz at h
 split at h
 .rename_i hc
  split at h
  .rename_i x hx
   split at h
   .rename_i hn
    cases h
    have hn:=Bj.1 hn
    obtain⟨q1,q2,q3⟩:=Dd.1 hc.1
    obtain⟨g1,g2,g3⟩:=q2 x (List.mem_of_getElem? hx)
    refine⟨hc.1,Bdi hc.1 hx rfl rfl ⟨g1,g2,?_⟩,?_,by simp⟩
    .dsimp only;omega
    .rw[Avu hx];dsimp only;omega
   .cases h
  .cases h
 .cases h
theorem Aet {l:List Am} {a:A6} (h:0<=C5 l a): ∃x,l[(C5 l a).toNat]? =some x/\idx l (C5 l a)=some x:=by
 obtain⟨x,hx,_⟩:=Avt h
 refine⟨x,hx,?_⟩
 unfold idx;rw[if_pos h];exact hx
theorem Bo3 {l:List Am} {n:Int} {x y:Am} (h:0<=n) (hx:l[n.toNat]? =some x):idx (l.set n.toNat y) n=some y:=by
 unfold idx
 rw[if_pos h,List.getElem?_set_self (List.getElem?_eq_some_iff.1 hx).1]
theorem Bq1 (l:List Am) (a:A6) (n:YI) (h:l.length<=1000):Agn (l,()) a n=some (Vj l a n.1,()):=by
 unfold Agn An3 Vj
 simp only[Af,Ag,Aa,Aj,List.length_nil,List.nil_append,Nat.zero_add]
 rw[Al zq0,Ba,Ku l zq0,Ae,Iv,Ae,Cq,Ae,Aad l a zq0,Ae]
 by_cases hc:Cg l=true/\Ck a=true/\inR n.1 0 1000000=true
 .obtain⟨c1,c2,c3⟩:=hc
  have c4:=Bj.1 c3
  rw[if_pos ⟨c1,c2,c3⟩,c1,c2,c3]
  simp only[Bool.not_true,Ao]
  by_cases hneg:C5 l a<0
  .rw[if_pos hneg,Al hneg,A9]
   by_cases h8:l.length=8
   .have:((l.length:Int)==8)=true:=by simp;omega
    rw[if_pos h8,this,A9]
   .have:((l.length:Int)==8)=false:=by simp;omega
    rw[if_neg h8,this,Ao,Al zq1,Ba]
  .obtain⟨x,hx,hi⟩:=Aet (l:=l) (a:=a) zq0
   obtain⟨_,q2,_⟩:=Dd.1 c1
   obtain⟨_,g2,_⟩:=q2 x (List.mem_of_getElem? hx)
   rw[if_neg hneg,Bp hneg,Ao,hi,hx]
   simp only[Ae]
   rw[Bo3 zq0 hx]
   simp only[Ae]
   rw[w64 zq0]
   by_cases hm:x.2.2.1+n.1>1000000
   .rw[Al hm,A9,if_pos hm,List.set_set]
   .rw[Bp hm,Ao,if_neg hm]
 .rw[if_neg hc]
  cases e1:Cg l with
  |false=>rfl
  |true=>
   cases e2:Ck a with
   |false=>rfl
   |true=>
    cases e3:inR n.1 0 1000000 with
    |false=>rfl
    |true=>exact(hc ⟨e1,e2,e3⟩).elim
theorem Bj9 (l:List Am) (a:A6) (h:l.length<=1000): ∃r,Ng (l,()) a=some (r,())/\(Cg l=true-> ∀x,0<=C5 l a->l[(C5 l a).toNat]? =some x->r=3*x.2.2.1-x.2.2.2.1):=by
 unfold Ng Ue
 simp only[Af,Ag,Aa]
 rw[Aad l a zq0,Ae,Ku l zq0,Ae]
 cases e1:Cg l with
 |false=>exact⟨_,rfl,fun h=>(by cases h)⟩
 |true=>
  simp only[Bool.not_true,Ao]
  by_cases hneg:C5 l a<0
  .rw[Al hneg];exact⟨_,rfl,fun _ x h=>by omega⟩
  .obtain⟨x,hx,hi⟩:=Aet (l:=l) (a:=a) zq0
   obtain⟨_,q2,_⟩:=Dd.1 e1
   obtain⟨_,g2,g3⟩:=q2 x (List.mem_of_getElem? hx)
   rw[Bp hneg,Ao,hi]
   simp only[Ae]
   rw[w64 (n:=3*x.2.2.1) zq0,w64 zq0]
   refine⟨_,rfl,fun _ y _ hy=>?_⟩
   rw[hx]at hy;cases hy;rfl
theorem Bo4 (l:List Am) (a:A6) (n:YI) (h:l.length<=1000):Rt (l,()) a n=some (match Uz l a n.1 with|some r=>((r,()),(true,()))|none=>((l,()),(false,()))):=by
 obtain⟨rm,r1,r2⟩:=Bj9 l a h
 unfold Rt Ahz
 simp only[Af,Ag,Aa,Aj,List.length_nil,List.nil_append,Nat.zero_add]
 rw[Al zq0,Ba,Aad l a zq0,Ae,Ku l zq0,Ae,r1,Ae,Cq,Ae]
 unfold Uz
 by_cases hneg:C5 l a<0
 .rw[Al hneg,A9,if_neg zq0]
 .rw[Bp hneg,Ao]
  cases e1:Cg l with
  |false=>rw[if_neg zq3];rfl
  |true=>
   obtain⟨x,hx,hi⟩:=Aet (l:=l) (a:=a) zq0
   obtain⟨_,q2,_⟩:=Dd.1 e1
   obtain⟨_,g2,g3⟩:=q2 x (List.mem_of_getElem? hx)
   have hr:=r2 e1 x zq0 hx
   subst hr
   rw[if_pos ⟨rfl,by omega⟩,hx,hi]
   simp only[Bool.not_true,Ao,Ae]
   cases hn:inR n.1 0 (3*x.2.2.1-x.2.2.2.1)with
   |false=>rfl
   |true=>
    have:=Bj.1 hn
    rw[w64 zq0]
    rfl
theorem Bgh {b:List YB} {a0:Aw} (n:YI) (hc:Bv b a0) (hn:0<=n.1/\n.1<=20):Tot (fun r=>Cg r.1.1=true/\Bv b r.2) (Up a0 n):=by
 unfold Up Aa8
 simp only[Af,Ag,Aa,Aj]
 rw[w64 zq0]
 refine Ad (Bf _ hc zq2) (fun r1 ⟨h1,h1c⟩=>?_)
 have h1b:0<=r1.1.1/\r1.1.1<=20:=⟨h1.1,by rcases h1.2 with q|q<;>(try dsimp only at q)<;>omega⟩
 refine Ad (Q:=fun o:(List Am)×(List YB)×Int×Int×Unit=>Cg o.1=true/\Bv b (o.2.1,o.2.2.1,o.2.2.2.1,())) ?_ (fun o ho=>Ah ho)
 refine X7 (fun i d=>d.2.1=r1.1.1-(i:Int)/\Cg d.1=true/\d.2.2.1=a0.1/\Bv b (d.2.2.1,d.2.2.2.1,d.2.2.2.2.1,())) _ r1.1.1.toNat ?_ ?_ ⟨by dsimp only;omega,rfl,rfl,Ab hc h1c⟩
 .rintro i ⟨l,k,c1,c2,c3,⟨⟩⟩ hi ⟨q1,q2,q3,q4⟩
  dsimp only at q1 q2 q3 q4
  subst q1 q3
  have hl:=(Dd.1 q2).1
  unfold L6
  simp only[Af,Ag,Aa,Aj]
  rw[Al zq0,A9]
  refine Ad (Bf _ q4 zq7) (fun r3 ⟨_,h3c⟩=>?_)
  refine Ad (Pg _) (fun r4 _=>?_)
  refine Ad (Jk _ (Ab hc h3c) zq7) (fun r5 h5c=>?_)
  rw[Bq1 l r4 r5.1 zq0,Ae]
  have hg:=(Bdj (a:=r4) (n:=r5.1.1) q2).1
  have hgl:=(Dd.1 hg).1
  refine Ad (Jk _ (Ab hc h5c) zq7) (fun r7 h7c=>?_)
  rw[show Rt _ r4 r7.1=_ from Bo4 (Vj l r4 r5.1.1) r4 r7.1 zq0,Ae]
  have hnx:IntKind.i64.wrap (r1.1.1-(i:Int)-1)=r1.1.1-((i+1:Nat):Int):=by rw[w64 zq0];omega
  cases hs:Uz (Vj l r4 r5.1.1) r4 r7.1.1 with
  |none=>exact Ah ⟨_,rfl,hnx,hg,rfl,(show Bv b (a0.1,r7.2.2.1,r7.2.2.2.1,())from Ab hc h7c)⟩
  |some q=>exact Ah ⟨_,rfl,hnx,(A8p hs).2.1,rfl,(show Bv b (a0.1,r7.2.2.1,r7.2.2.2.1,())from Ab hc h7c)⟩
 .rintro⟨l,k,c1,c2,c3,⟨⟩⟩ ⟨q1,q2,q3,q4⟩
  dsimp only at q1 q2 q3 q4
  unfold L6
  simp only[Af,Ag,Aa,Aj]
  rw[Bp zq0,Ao]
  exact Ah ⟨_,rfl,q2,q4⟩
def VP (t:Cj):Prop:=∀x∈t.2.1,Cs x=true
theorem Avv {M K:Nat} (t:Cj) (s:Ak) (ht:TP M K t) (hs:SP K s) (hb:M+M*K+K<=1073741824) (hv:VP t) (ho:Cs s=true):Tot (fun r=>TP (M+1) K r.1/\VP r.1/\(Hm t=true->Hm r.1=true)/\ ∀x∈r.1.2.1,x∈t.2.1\/x=s) (Qo t s):=by
 have hn:=ht.need
 have hs1:=hs.1
 have hl1:=ht.1
 obtain⟨r,b,e1,e2,_⟩:=A3y t s zq0
 obtain⟨⟨r',b',⟨⟩⟩,e3,h3⟩:=Bj7 t s zq0
 rw[e1]at e3
 simp only[Option.some.injEq,Prod.mk.injEq,and_true]at e3
 obtain⟨rfl,rfl⟩:=e3
 refine⟨_,e2,?_⟩
 dsimp only
 dsimp only at h3
 by_cases hc:b=0
 .have hadd:=Bm6 zq0 h3 hc
  obtain⟨_,_,_,_,_,_,e⟩:=h3.2 hc
  refine⟨?_,fun x hx=>?_,fun _=>hadd.1,fun x hx=>?_⟩
  .subst e
   refine⟨by have:=ht.1;simp;omega,fun x hx=>?_⟩
   rcases List.mem_append.1 hx with hx|hx
   .exact ht.2 x hx
   .simp at hx;rw[hx];exact hs
  .subst e
   rcases List.mem_append.1 hx with hx|hx
   .exact hv x hx
   .simp at hx;rw[hx];exact ho
  .subst e
   rcases List.mem_append.1 hx with hx|hx
   .exact .inl hx
   .simp at hx;exact .inr hx
 .have e:r=t:=h3.1 hc
  subst e
  exact⟨ht.le zq0 (Nat.le_refl _),hv,fun h=>h,fun x hx=>.inl hx⟩
theorem Bnb (s:Ak) (h:SP 20000 s) (ho:Cs s=true):Tot (fun r=>SP 20000 r/\Cs r=true) (Zx s):=by
 have hn:=h.1
 obtain⟨r,_,e,_,h2,_⟩:=Boq s zq0 ho
 exact(A8n s h zq7).both ⟨r,e,h2⟩
theorem Bgi {b:List YB} {a0:Aw} (hc:Bv b a0):Tot (fun r=>(TP 6 20000 r.1/\VP r.1)/\Bv b r.2) (Uo a0):=by
 unfold Uo Aa7
 simp only[Af,Ag,Aa,Aj]
 refine Ad (Bf _ hc zq7) (fun r1 ⟨_,h1c⟩=>?_)
 refine Ad (A38 _) (fun r2 h2=>?_)
 refine Ad (Bf _ (Ab hc h1c) zq7) (fun r3 ⟨h3,h3c⟩=>?_)
 have h3b:0<=r3.1.1/\r3.1.1<6:=⟨h3.1,by rcases h3.2 with q|q<;>omega⟩
 have h2n:r2.2.1=[]:=List.eq_nil_of_length_eq_zero h2
 refine Ad (Q:=fun o:(List YB)×Int×Int×Int×(List Ak)×Int×(List Ak)×Unit=>(TP 6 20000 (o.2.2.2.2.2.1,o.2.2.2.2.2.2.1,())/\VP (o.2.2.2.2.2.1,o.2.2.2.2.2.2.1,()))/\Bv b (o.1,o.2.1,o.2.2.1,())) ?_ (fun o ho=>Ah ⟨ho.1,ho.2⟩)
 refine X7 (fun i d=>d.1=r3.1.1-(i:Int)/\(TP i 20000 (d.2.2.2.2.2.2.1,d.2.2.2.2.2.2.2.1,())/\VP (d.2.2.2.2.2.2.1,d.2.2.2.2.2.2.2.1,()))/\d.2.1=a0.1/\Bv b (d.2.1,d.2.2.1,d.2.2.2.1,())) _ r3.1.1.toNat ?_ ?_ ⟨by omega,⟨⟨by show r2.2.1.length<=0;omega,fun x hx=>by rw[h2n]at hx;cases hx⟩,fun x hx=>by dsimp only at hx;rw[h2n]at hx;cases hx⟩,rfl,Ab hc h3c⟩
 .rintro i ⟨n,c1,c2,c3,z,zl,cap,l,⟨⟩⟩ hi ⟨q1,⟨q2,qv⟩,q3,q4⟩
  dsimp only at q1 q2 qv q3 q4
  subst q1 q3
  unfold L5
  simp only[Af,Ag,Aa,Aj]
  rw[Al zq0,A9]
  have hnext:IntKind.i64.wrap (r3.1.1-(i:Int)-1)=r3.1.1-((i+1:Nat):Int):=by rw[w64 zq0];omega
  refine Ad ((Aza q4).both (Bga q4)) (fun r5 ⟨⟨h5,h5c⟩,⟨h5v,_⟩,_⟩=>?_)
  have h5s:SP 20000 r5.1:=h5.le zq7
  refine Ad (Avv (M:=i) (K:=20000) _ _ q2 h5s zq0 qv h5v) (fun r6 ⟨h6,h6v,_⟩=>?_)
  refine An (fun hp=>?_) (fun _=>?_)
  .simp only[decide_eq_true_eq]at hp
   refine Ad (Az _ (Ab hc h5c) zq7) (fun r7 h7c=>?_)
   refine An (fun _=>?_) (fun _=>?_)
   .have h6l:=h6.1
    refine Ad (Bf _ (Ab hc h7c) zq2) (fun r8 ⟨h8,h8c⟩=>?_)
    have h8b:0<=r8.1.1/\r8.1.1<(r6.1.2.1.length:Int):=⟨h8.1,by rcases h8.2 with q|q<;>(try dsimp only at q)<;>omega⟩
    refine Ad (E7 (P:=fun x=>SP 20000 x/\Cs x=true) h8b.1 h8b.2 (fun x hx=>⟨h6.2 x hx,h6v x hx⟩)) (fun e9 ⟨h9,h9v⟩=>?_)
    refine Ad (Bnb _ h9 h9v) (fun r10 ⟨h10,h10v⟩=>?_)
    refine Ad (E7 (P:=fun _=>True) h8b.1 h8b.2 (fun x hx=>trivial)) (fun e11 _=>?_)
    refine Ah ⟨_,rfl,hnext,⟨⟨by simpa using h6.1,fun x hx=>?_⟩,fun x hx=>?_⟩,rfl,Ab hc h8c⟩
    .rcases A04 hx with hx|hx
     .exact h6.2 x hx
     .rw[hx];exact h10
    .rcases A04 hx with hx|hx
     .exact h6v x hx
     .rw[hx];exact h10v
   .exact Ah ⟨_,rfl,hnext,⟨h6,h6v⟩,rfl,Ab hc h7c⟩
  .exact Ah ⟨_,rfl,hnext,⟨h6,h6v⟩,rfl,Ab hc h5c⟩
 .rintro⟨n,c1,c2,c3,z,zl,cap,l,⟨⟩⟩ ⟨q1,⟨q2,qv⟩,q3,q4⟩
  dsimp only at q1 q2 qv q3 q4
  unfold L5
  simp only[Af,Ag,Aa,Aj]
  rw[Bp zq0,Ao]
  exact Ah ⟨_,rfl,⟨q2.le zq0 (Nat.le_refl _),qv⟩,q4⟩
theorem Bo5 (n:YI) (h:1<=n.1/\n.1<=6):O6 n=some (n.1,([]:List Ak),()):=by
 unfold O6 Adl
 simp only[Ag,Af,Aa,Cq,Ae]
 rw[Bj.2 h];rfl
def A05 (l:List YBs):Prop:=(1<=l.length/\l.length<=3)/\ ∀x∈l,1<=x.1.length/\x.1.length<=32
theorem Bgj {b:List YB} {a0:Aw} (hc:Bv b a0):Tot (fun r=>A05 r.1.1/\Bv b r.2) (Uk a0):=by
 unfold Uk Aay
 simp only[Af,Ag,Aa,Aj]
 refine Ad (Bf _ hc zq7) (fun r1 ⟨h1,h1c⟩=>?_)
 have h1b:0<=r1.1.1/\r1.1.1<3:=⟨h1.1,by rcases h1.2 with q|q<;>(try dsimp only at q)<;>omega⟩
 rw[w64 zq0]
 refine Ad (Q:=fun o:(List YBs)×(List YB)×Int×Int×Unit=>A05 o.1/\Bv b (o.2.1,o.2.2.1,o.2.2.2.1,())) ?_ (fun o ho=>Ah ho)
 refine X7 (fun i d=>d.2.1=1+r1.1.1-(i:Int)/\(d.1.length=i/\ ∀x∈d.1,1<=x.1.length/\x.1.length<=32)/\d.2.2.1=a0.1/\Bv b (d.2.2.1,d.2.2.2.1,d.2.2.2.2.1,())) _ (1+r1.1.1).toNat ?_ ?_ ⟨by dsimp only;omega,⟨rfl,fun x hx=>by cases hx⟩,rfl,Ab hc h1c⟩
 .rintro i ⟨l,k,c1,c2,c3,⟨⟩⟩ hi ⟨q1,q2,q3,q4⟩
  dsimp only at q1 q2 q3 q4
  subst q1 q3
  unfold Lz
  simp only[Af,Ag,Aa,Aj]
  rw[Al zq0,A9]
  refine Ad (Bf _ q4 zq7) (fun r3 ⟨h3,h3c⟩=>?_)
  have h3b:0<=r3.1.1/\r3.1.1<32:=⟨h3.1,by rcases h3.2 with q|q<;>(try dsimp only at q)<;>omega⟩
  refine Ad (C0 _ (Ab hc h3c) (by dsimp only;rw[w64 zq0];omega)) (fun r4 ⟨⟨h4,_⟩,h4c⟩=>?_)
  dsimp only at h4
  rw[w64 zq0]at h4
  refine Ej (Al zq1) (Ah ⟨_,rfl,?_,⟨by simp;omega,fun x hx=>?_⟩,rfl,(show Bv b (a0.1,r4.2.2.1,r4.2.2.2.1,())from Ab hc h4c)⟩)
  .dsimp only;rw[w64 zq0];omega
  .dsimp only at hx
   rcases List.mem_append.1 hx with hx|hx
   .exact q2.2 x hx
   .simp only[List.mem_singleton]at hx
    rw[hx];omega
 .rintro⟨l,k,c1,c2,c3,⟨⟩⟩ ⟨q1,q2,q3,q4⟩
  dsimp only at q1 q2 q3 q4
  unfold Lz
  simp only[Af,Ag,Aa,Aj]
  rw[Bp zq0,Ao]
  exact Ah ⟨_,rfl,⟨by dsimp only;omega,q2.2⟩,q4⟩
theorem A05.psk {l:List YBs} (h:A05 l):D6 (fun _ x=> !G7 x) l=true:=G8.2 fun j x hj=>by
 have:=h.2 x (List.mem_of_getElem? hj)
 show(!G7 x)=false
 unfold G7
 rw[Bj.2 zq0];rfl
theorem A05.sum {l:List YBs} (h:A05 l):Bu E6 l<=96:=PP.sum (M:=3) ⟨h.1.2,fun x hx=>(h.2 x hx).2⟩
theorem A6d (ps:List YBs×Unit) (sd:YBs) (n:YI) (hp:A05 ps.1) (hs:sd.1.length=8) (hn:1<=n.1/\n.1<=4):Tot (fun r=>Fg r=true/\r.1=ps.1/\r.2.2.2.2.2.1=[]) (Pz ps sd n):=by
 have h3:=hp.sum
 have h4:=hp.1
 have hd:F0 (sd.1,(0:Int),())=true:=by
  unfold F0
  rw[hs]
  show(inR ((8:Nat):Int) 1 32 && inR (0:Int) 0 10000)=true
  decide
 have hroll:G5 (sd.1,(0:Int),())=((sd.1,(0:Int)+1,()),Oe sd.1 0):=by
  unfold G5;rw[if_pos ⟨hd,by show(0:Int)≠10000;decide⟩]
 have hj:=Bm8 (A8o hd)
 unfold Pz U7
 simp only[Af,Ag,Aa]
 rw[Bmg _ zq2,hroll]
 simp only[Ae,Bcx]
 rw[Bo5 n zq0]
 simp only[Ae]
 rw[A8e ps.1 zq0]
 simp only[Ae]
 have hn':Br (ps.1,Xy (Oe sd.1 0),sd.1,(0:Int)+1,n.1,([]:List Ak),([]:List Am),())<=1000:=by
  simp only[Br,List.length_nil,Bu];omega
 have ho:Fg (ps.1,Xy (Oe sd.1 0),sd.1,(0:Int)+1,n.1,([]:List Ak),([]:List Am),())=true:=by
  refine Eh.2 ⟨Bj.2 zq2,by rw[hj];rfl,?_,?_,rfl,hp.psk,fun x hx=>by cases hx⟩
  .unfold F0
   dsimp only
   rw[hs];decide
  .exact(Ach zq3).2 ⟨by dsimp only;omega,by simp,by simp[Fa];omega,(fun x hx=>by cases hx),.nil⟩
 rw[A3x _ zq0,ho]
 simp only[Ae,Bool.not_true,Ao]
 exact Ah ⟨ho,rfl,rfl⟩
theorem Bgk {b:List YB} {a0:Aw} (hc:Bv b a0):Tot (fun r=>Fg r.1=true/\Bv b r.2) (Uq a0):=by
 unfold Uq Aa9
 simp only[Af,Ag,Aa,Aj]
 refine Ad (Bgj hc) (fun r1 ⟨h1,h1c⟩=>?_)
 refine Ad (C0 _ (Ab hc h1c) zq7) (fun r2 ⟨⟨h2,_⟩,h2c⟩=>?_)
 refine Ad (Bf _ (Ab hc h2c) zq7) (fun r3 ⟨h3,h3c⟩=>?_)
 have h3b:0<=r3.1.1/\r3.1.1<4:=⟨h3.1,by rcases h3.2 with q|q<;>(try dsimp only at q)<;>omega⟩
 have h2':r2.1.1.length=8:=h2
 rw[w64 (n:=1+r3.1.1) zq0]
 refine Ad (A6d _ _ _ h1 h2' zq2) (fun r4 ⟨h4,h4p,h4t⟩=>?_)
 obtain⟨a1,a2,a3,a4,a5,a6,a7⟩:=Eh.1 h4
 refine Ad (Bgi (Ab hc h3c)) (fun r5 ⟨⟨h5,h5v⟩,h5c⟩=>?_)
 refine Ad (Q:=fun o:(List YB)×Int×Int×(List YBs)×(List YB)×(List YB)×Int×Int×(List Ak)×(List Am)×(List YBs)×(List YB)×(List YB)×Int×Int×(List Ak)×(List Am)×Unit=>(o.2.2.2.2.2.2.2.2.2.2.1=r4.1/\o.2.2.2.2.2.2.2.2.2.2.2.1=r4.2.1/\o.2.2.2.2.2.2.2.2.2.2.2.2.1=r4.2.2.1/\Hm (o.2.2.2.2.2.2.2.2.2.2.2.2.2.2.1,o.2.2.2.2.2.2.2.2.2.2.2.2.2.2.2.1,())=true/\ ∀x∈o.2.2.2.2.2.2.2.2.2.2.2.2.2.2.2.1,x.1<=(r4.1.length:Int))/\o.1=a0.1/\Bv b (o.1,o.2.1,o.2.2.1,())) ?_ (fun o ⟨⟨o1,o2,o3,o4,o7⟩,o5,o6⟩=>?_)
 .have h5l:=h5.1
  refine X7 (fun i d=>d.1=(i:Int)/\d.2.2.2.2.2.2.2.2.2.2.2.2.2.2.2.2.2.2.2.1=r5.1.2.1/\(d.2.2.2.2.2.2.2.2.2.2.2.1=r4.1/\d.2.2.2.2.2.2.2.2.2.2.2.2.1=r4.2.1/\d.2.2.2.2.2.2.2.2.2.2.2.2.2.1=r4.2.2.1/\TP i 20000 (d.2.2.2.2.2.2.2.2.2.2.2.2.2.2.2.1,d.2.2.2.2.2.2.2.2.2.2.2.2.2.2.2.2.1,())/\VP (d.2.2.2.2.2.2.2.2.2.2.2.2.2.2.2.1,d.2.2.2.2.2.2.2.2.2.2.2.2.2.2.2.2.1,())/\Hm (d.2.2.2.2.2.2.2.2.2.2.2.2.2.2.2.1,d.2.2.2.2.2.2.2.2.2.2.2.2.2.2.2.2.1,())=true/\ ∀x∈d.2.2.2.2.2.2.2.2.2.2.2.2.2.2.2.2.1,x.1<=(r4.1.length:Int))/\d.2.1=a0.1/\Bv b (d.2.1,d.2.2.1,d.2.2.2.1,())) _ r5.1.2.1.length ?_ ?_ ⟨rfl,rfl,⟨rfl,rfl,rfl,⟨(by dsimp only;rw[h4t];simp),fun x hx=>(by dsimp only at hx;rw[h4t]at hx;cases hx)⟩,fun x hx=>(by dsimp only at hx;rw[h4t]at hx;cases hx),a4,a7⟩,rfl,Ab hc h5c⟩
  .rintro i ⟨k,c1,c2,c3,z0,z1,z2,z3,z4,z5,z6,s0,s1,s2,s3,s4,s5,s6,tc,tl,⟨⟩⟩ hi ⟨q1,q2,⟨q3,q4,q5,q6,q7,q8,q9⟩,q10,q11⟩
   dsimp only at q1 q2 q3 q4 q5 q6 q7 q8 q9 q10 q11
   subst q1 q2 q3 q4 q5 q10
   unfold L7
   simp only[Af,Ag,Aa,Aj]
   rw[Al zq0,A9]
   have hnx:IntKind.i64.wrap ((i:Int)+1)=((i+1:Nat):Int):=by rw[w64 zq0];omega
   have hx:=List.getElem?_eq_getElem hi
   rw[B9 hx]
   simp only[Ae]
   have hsp:=h5.2 _ (List.getElem_mem hi)
   have hok:=h5v _ (List.getElem_mem hi)
   generalize r5.1.2.1[i]=x at hsp hok
   refine An (fun hid=>?_) (fun _=>?_)
   .simp only[decide_eq_true_eq]at hid
    refine Ad (Avv (M:=i) (K:=20000) _ _ q6 hsp zq0 q7 hok) (fun r9 ⟨g1,g2,g3,g4⟩=>?_)
    refine Ah ⟨_,rfl,hnx,rfl,⟨rfl,rfl,rfl,g1,g2,g3 q8,fun y hy=>?_⟩,rfl,q11⟩
    rcases g4 y hy with g|g
    .exact q9 y g
    .rw[g];exact hid
   .exact Ah ⟨_,rfl,hnx,rfl,⟨rfl,rfl,rfl,q6.le zq0 (Nat.le_refl _),q7,q8,q9⟩,rfl,q11⟩
  .rintro⟨k,c1,c2,c3,z0,z1,z2,z3,z4,z5,z6,s0,s1,s2,s3,s4,s5,s6,tc,tl,⟨⟩⟩ ⟨q1,q2,⟨q3,q4,q5,q6,q7,q8,q9⟩,q10,q11⟩
   dsimp only at q1 q2 q3 q4 q5 q6 q7 q8 q9 q10 q11
   subst q1 q2
   unfold L7
   simp only[Af,Ag,Aa,Aj]
   rw[Bp zq0,Ao]
   exact Ah ⟨_,rfl,⟨q3,q4,q5,q8,q9⟩,q10,q11⟩
 .refine Ad (Bgh ((6:Int),()) o6 zq7) (fun r11 ⟨h11,h11c⟩=>?_)
  refine Ad (Bf _ (Ab o6 h11c) zq7) (fun r12 ⟨h12,h12c⟩=>?_)
  have h12b:0<=r12.1.1/\r12.1.1<30:=⟨h12.1,by rcases h12.2 with q|q<;>(try dsimp only at q)<;>omega⟩
  refine Ah ⟨Eh.2 ⟨?_,?_,?_,o4,h11,?_,?_⟩,Ab o6 h12c⟩
  .dsimp only;rw[o1];exact a1
  .dsimp only;rw[o2];exact a2
  .dsimp only
   rw[o3]
   unfold F0 at a3 ⊢
   simp only[Bool.and_eq_true,Bj]at a3 ⊢
   rw[w64 zq0]
   exact⟨a3.1,by omega⟩
  .dsimp only;rw[o1];exact a6
  .dsimp only;rw[o1];exact o7
def Aqz (s r:Ak) (os:List Bc) (ns:List Ax):Prop:=Cs r=true/\Jl os/\H1 ns/\r.1=s.1/\r.2.2.1=s.2.2.1/\C4 r=false/\r.2.1=s.2.1
theorem Bsa {s:Ak} {X:Ap} {P p':Bn} {n:YI} {a:A6} {d:YBs} {os:List Bc} {ns:List Ax} {b:Bool} {y:Ap} {g:Ar} {zz:Int} {m:Ax} (hs:Cs s=true) (hd:C4 s=false) (hX:Ci X=true) (h1:X.1=1) (h2:X.2.1=(Cm s).2.1) (hP:D7 P=true) (hn:0<=n.1/\n.1<=1000000) (ha:Ck a=true) (hdl:d.1.length<=12)
  (hb:Bd P<=4294967296) (hc:A7 X<=60000000) (hos:Jl os) (hns:H1 ns) (hne:ns≠[]) (hAt:(P.1=(Bm s).1/\P.2.1=(Bm s).2.1)\/(P.1=a.1/\P.2.1=a.2.1)) (hcd:P.2.2.1=[]\/(Bm s).2.2.1.length>0)
  (o:Dh P n a d=some (p',(b,()))) (e:Cn X ((5:Int),()) d=some (y,g,(zz,()))):
  (b=false->Aqz s (Jj s X P n.1) os ns)/\(zz≠0->Aqz s (Jj s X P n.1) os ns)/\
  (b=true->zz=0->Aqz s (Jj s y p' n.1) (os++[(a.1,a.2.1,g.1,g.2.1,g.2.2.1,g.2.2.2.1,g.2.2.2.2.1,g.2.2.2.2.2.1,g.2.2.2.2.2.2.1,g.2.2.2.2.2.2.2.1,g.2.2.2.2.2.2.2.2.1,g.2.2.2.2.2.2.2.2.2.1,g.2.2.2.2.2.2.2.2.2.2.1,())]) (ns++[Gy y g])):=by
 obtain⟨d,⟨⟩⟩:=d
 dsimp only at hdl
 obtain⟨O1,O2⟩:=Bm2 hb o
 obtain⟨y',g',zz',e1,_,e',E1,E2,E3,E4,E5⟩:=Gt X 5 d zq0
 have ee:=e
 rw[show Cn X ((5:Int),()) (d,())=_ from e1]at ee
 simp only[Option.some.injEq,Prod.mk.injEq,and_true]at ee
 obtain⟨rfl,rfl,rfl⟩:=ee
 have h0:=Bhp hs hd hX h1 h2 hP hn
 have base:Aqz s (Jj s X P n.1) os ns:=⟨h0,hos,hns,rfl,rfl,hd,rfl⟩
 refine⟨fun _=>base,fun _=>base,fun hb1 hz=>?_⟩
 .obtain⟨a1,a2,a3,a4,a5,l,u,a6,a7⟩:=O2 hb1
  obtain⟨_,c2,c3,c4,c5,c6⟩:=E5 hz
  have hg1:g'.1=5:=by rw[c5];unfold Gq;rw[c6];rfl
  have hgo:B7 g'=true:=by rw[c5];exact Aak c6
  have hy1:y'.1=1:=by rw[E1];exact h1
  have hy2:y'.2.1=(Cm s).2.1:=by rw[E1];exact h2
  refine⟨Bhp hs hd c2 hy1 hy2 a2 hn,A37 hos (fun x hx=>?_),Kw hns (Ey (Aqy c2)),rfl,rfl,hd,rfl⟩
  rw[List.mem_singleton.1 hx]
  exact⟨hgo,a1⟩
theorem A39 {s r:Ak} {X:Ap} {P p':Bn} {n:YI} {a:A6} {d:YBs} {os os2:List Bc} {ns ns2:List Ax} {b k c1 c2:Bool} {y:Ap} {g:Ar} {zz:Int} (hs:Cs s=true) (hd:C4 s=false) (hX:Ci X=true) (h1:X.1=1) (h2:X.2.1=(Cm s).2.1) (hP:D7 P=true) (hn:0<=n.1/\n.1<=1000000) (ha:Ck a=true) (hdl:d.1.length<=12)
  (hb:Bd P<=4294967296) (hc:A7 X<=60000000) (hos:Jl os) (hns:H1 ns) (hne:ns≠[]) (hAt:(P.1=(Bm s).1/\P.2.1=(Bm s).2.1)\/(P.1=a.1/\P.2.1=a.2.1)) (hcd:P.2.2.1=[]\/(Bm s).2.2.1.length>0)
  (o:Dh P n a d=some (p',(b,()))) (e:Cn X ((5:Int),()) d=some (y,g,(zz,())))
  (h:br (!b) (some (Jj s X P n.1,(os,()),(ns,()),(false,()))) (br (zz != (0:Int)) (some (Jj s X P n.1,(os,()),(ns,()),(false,()))) (chk c1 (chk c2 (some (Jj s y p' n.1,(os++[(a.1,a.2.1,g.1,g.2.1,g.2.2.1,g.2.2.2.1,g.2.2.2.2.1,g.2.2.2.2.2.1,g.2.2.2.2.2.2.1,g.2.2.2.2.2.2.2.1,g.2.2.2.2.2.2.2.2.1,g.2.2.2.2.2.2.2.2.2.1,g.2.2.2.2.2.2.2.2.2.2.1,())],()),(ns++[Gy y g],()),(true,()))))))=some (r,(os2,()),(ns2,()),(k,()))):Aqz s r os2 ns2:=by
 obtain⟨T1,T2,T3⟩:=Bsa hs hd hX h1 h2 hP hn ha hdl hb hc hos hns hne hAt hcd o e (m:=Gy y g)
 rcases F9 h with⟨q,h⟩|⟨q,h⟩
 .have q:b=false:=by simpa using q
  simp only[Option.some.injEq,Prod.mk.injEq,and_true]at h
  obtain⟨rfl,rfl,rfl,rfl⟩:=h
  exact T1 q
 have q:b=true:=by simpa using q
 rcases F9 h with⟨q2,h⟩|⟨q2,h⟩
 .simp only[Option.some.injEq,Prod.mk.injEq,and_true]at h
  obtain⟨rfl,rfl,rfl,rfl⟩:=h
  exact T2 (by simpa using q2)
 .have h:=Gz (Gz h)
  simp only[Option.some.injEq,Prod.mk.injEq,and_true]at h
  obtain⟨rfl,rfl,rfl,rfl⟩:=h
  exact T3 q (by simpa using q2)
theorem Bs9 (s:Ak) (h:A5 s<=8388608) (ho:Cs s=true) (hd:C4 s=false) {r:Ak} {os:List Bc} {ns:List Ax} (e:Nh s=some (r,(os,()),(ns,()))):(r=s/\os=[]/\ns=[])\/Aqz s r os ns:=by
 have hch:=Abr s
 have hck:=Er (Cm s)
 obtain⟨q1,q2,q3,q4,q5,q6,q7,q8,q9⟩:=Tp ho hd
 have none: ∀ {r':Ak} {os':List Bc} {ns':List Ax},some (s,(([]:List Bc),()),(([]:List Ax),()))=some (r',(os',()),(ns',()))->(r'=s/\os'=[]/\ns'=[]):=fun h=>by
  simp only[Option.some.injEq,Prod.mk.injEq,and_true]at h
  exact⟨h.1.symm,h.2.1.symm,h.2.2.symm⟩
 obtain⟨c',f,z,k1,_,K1,K2,K3⟩:=A30 (Cm s) zq0
 have hyk:=Er c'
 unfold Nh Abl at e
 simp only[Af,Ag,Aa,Aj]at e
 rw[Mx s zq0,Sa s zq0]at e
 have hd':s.2.2.2.2.2.2.2.2.2.2.2.2.2.2.2.2.2.2.2.2.2.2.2.1=false:=hd
 simp only[Ae,ho,Bool.not_true,Ao]at e
 rw[Di hd']at e
 rcases F9 e with⟨_,e⟩|⟨_,e⟩
 .exact .inl (none e)
 rw[show Ael _=some (c',f,(z,()))from k1]at e
 simp only[Ae]at e
 rcases F9 e with⟨_,e⟩|⟨hz,e⟩
 .exact .inl (none e)
 have hz:z=0:=by simpa using hz
 obtain⟨F1,F2,F3,F4,F5,F6,F7,F8⟩:=Bm4 (K3 hz)
 rw[Ii c' f zq0 zq0]at e
 simp only[Ae,Option.some.injEq,Prod.mk.injEq,and_true]at e
 obtain⟨rfl,rfl,rfl⟩:=e
 have hpa:Ck ((Bm s).1,(Bm s).2.1,())=true:=by
  unfold D7 at q8
  simp only[Bool.and_eq_true]at q8
  exact q8.1
 have hX2:c'.2.1=(Cm s).2.1:=by
  obtain⟨e',E1,_⟩:=K3 hz
  rw[E1];rfl
 have hT:=Bo2 (p:=Bm s) ho hd F1 F2 hX2 q8
 have ho1:Jl [((Bm s).1,(Bm s).2.1,f.1,f.2.1,f.2.2.1,f.2.2.2.1,f.2.2.2.2.1,f.2.2.2.2.2.1,f.2.2.2.2.2.2.1,f.2.2.2.2.2.2.2.1,f.2.2.2.2.2.2.2.2.1,f.2.2.2.2.2.2.2.2.2.1,f.2.2.2.2.2.2.2.2.2.2.1,())]:=fun o hm=>by
  rw[List.mem_singleton.1 hm]
  exact⟨F4,hpa⟩
 have hn1:=Ey F5
 clear K1 K2 K3 k1 F1 F2 F3 F4 F5 F6 F7 F8
 exact .inr ⟨hT,ho1,hn1,rfl,rfl,hd,rfl⟩
theorem Bsb (s:Ak) (n:YI) (a:A6) (f:Ar) (d:YBs) (h:A5 s<=8388608) (h2:Aq f<=8388608) (w1:wfB f.2.2.2.1) (w2:wfB (Cm s).2.1) (ho:Cs s=true) (hd:C4 s=false) (hdl:d.1.length<=12)
  {r:Ak} {os:List Bc} {ns:List Ax} {k:Bool} (e:Lm s n a f d=some (r,(os,()),(ns,()),(k,()))):(ns=[]/\r=s/\os=[]/\k=false)\/Aqz s r os ns:=by
 have hch:=Abr s
 have hpa:=Avh s
 have hck:=Er (Cm s)
 have hsl:s.2.2.1.length<=A5 s:=by simp only[A5];omega
 have htl:=Uy 0 f
 obtain⟨q1,q2,q3,q4,q5,q6,q7,q8,q9⟩:=Tp ho hd
 obtain⟨ch,p,z,o1,_,O1,O2,O3,O4⟩:=Ay4 (Cm s) n f zq0 zq0 w1 w2
 obtain⟨ky,kb,y1,_,y3,y4⟩:=A8j (Cm s) (f.2.2.2.2.2.2.2.1,()) zq0
 have hchk:=Er ch
 have none: ∀ {r':Ak} {os':List Bc} {ns':List Ax} {k':Bool},some (s,(([]:List Bc),()),(([]:List Ax),()),(false,()))=some (r',(os',()),(ns',()),(k',()))->(ns'=[]/\r'=s/\os'=[]/\k'=false):=fun h=>by
  simp only[Option.some.injEq,Prod.mk.injEq,and_true]at h
  exact⟨h.2.2.1.symm,h.1.symm,h.2.1.symm,h.2.2.2.symm⟩
 unfold Lm Xe at e
 simp only[Af,Ag,Aa,Aj]at e
 rw[Mx s zq0,Sa s zq0,Hs]at e
 have hd':s.2.2.2.2.2.2.2.2.2.2.2.2.2.2.2.2.2.2.2.2.2.2.2.1=false:=hd
 simp only[Ae,ho,Bool.not_true,Ao]at e
 rw[Di hd']at e
 cases ha:Ck a with
 |false=>rw[ha]at e;exact .inl (none e)
 |true=>
 rw[ha]at e
 simp only[Bool.not_true,Ao]at e
 rw[show Oa (Cm s) n f=some (ch,(p,()),(z,()))from o1,show Xr (Cm s) (f.2.2.2.2.2.2.2.1,())=some ((ky,()),(kb,()))from y1,Tl _ _ zq0]at e
 simp only[Ae]at e
 by_cases hz:z=0
 case neg=>
  rw[E0 (by simpa using hz)]at e
  exact .inl (none e)
 case pos=>
 subst hz
 rw[Di (by rfl),A33 _ _ _ zq0 zq0 zq0]at e
 simp only[Ae]at e
 obtain⟨P1,P2,hn,P4,P5,P6,P7,P8,P9,P10,_⟩:=O4 rfl
 obtain⟨b1,b2,b3,b4,b5⟩:=Aed P4 P5
 have hX1:ch.1=1:=by rw[P7];exact q6
 have hX2:ch.2.1=(Cm s).2.1:=P8
 have tk:Ji (Hn ky s.2.2.1 (D3 0 f))=true:=A02 y4 (.inr q3) zq0
 have hos0:Jl []:=fun _ h=>by cases h
 have hAt0:((Bm s).1=(Bm s).1/\(Bm s).2.1=(Bm s).2.1)\/((Bm s).1=a.1/\(Bm s).2.1=a.2.1):=.inl ⟨rfl,rfl⟩
 have hcd0:(Bm s).2.2.1=[]\/(Bm s).2.2.1.length>0:=by
  cases (Bm s).2.2.1 with
  |nil=>exact .inl rfl
  |cons _ _=>exact .inr zq3
 have run: ∀(X:Ap) (P:Bn),Bd P<=4294967296->A7 X<=60000000-> ∃p' b y g zz,Dh P n a d=some (p',(b,()))/\Cn X ((5:Int),()) d=some (y,g,(zz,()))/\Ie y g=some (Gy y g):=fun X P h1 h2=>by
  obtain⟨p',b,of1,_⟩:=Iy P n a d h1
  obtain⟨y,g,zz,g1,_,e',GS1,GS2,GS3,_⟩:=Gt X 5 d.1 zq0
  have hyk:=Er y
  exact⟨p',b,y,g,zz,of1,g1,Ii y g zq0 zq0⟩
 rcases F9 e with⟨_,e⟩|⟨_,e⟩
 .
  rw[Ch _ zq2]at e
  simp only[Ae]at e
  have e:=Gz e
  obtain⟨p',b,y,g,zz,of1,g1,m1⟩:=run ch (Bm s) zq0 zq0
  rw[show Dh (Bm s) n a d=some (p',(b,()))from of1,show Cn ch ((5:Int),()) d=some (y,g,(zz,()))from g1]at e
  simp only[Ae]at e
  rw[m1]at e
  simp only[Ae]at e
  have got:Ji ((6:Int),(0:Int),(0:Int),([]:List YB),s.2.2.1,f.2.2.2.2.2.2.2.1,f.2.2.2.2.2.2.2.2.1,p,([]:List YB),(0:Int),(0:Int),n.1,())=true:=by
   rw[Mz]
   simp only[List.length_nil]
   exact⟨by omega,by omega,by omega,b2,b3,hn,.inl trivial,.inr q3,by omega,.inl trivial,A34⟩
  exact .inr (A39 ho hd P2 hX1 hX2 q8 hn ha hdl zq0 zq0 hos0 (Kw (Ey tk) (Ey got)) zq3 hAt0 hcd0 of1 g1 e)
 rcases F9 e with⟨_,e⟩|⟨_,e⟩
 .
  obtain⟨pa,ab,an1,_,_,_⟩:=Avp (Bm s) n a (p,()) zq0
  obtain⟨A1,A2,A3⟩:=Bj5 zq0 an1
  rw[show Pc (Bm s) n a (p,())=some (pa,(ab,()))from an1]at e
  simp only[Ae]at e
  rcases F9 e with⟨c,e⟩|⟨_,e⟩
  .obtain⟨B1,B2,B3,B4⟩:=A2 c
   rw[Ch _ zq2]at e
   simp only[Ae]at e
   have e:=Gz e
   obtain⟨p',b,y,g,zz,of1,g1,m1⟩:=run ch pa zq0 zq0
   rw[show Dh pa n a d=some (p',(b,()))from of1,show Cn ch ((5:Int),()) d=some (y,g,(zz,()))from g1]at e
   simp only[Ae]at e
   rw[m1]at e
   simp only[Ae]at e
   have mv:Ji ((9:Int),(0:Int),(0:Int),([]:List YB),s.2.2.1,(0:Int),(0:Int),p,([]:List YB),a.1,a.2.1,n.1,())=true:=by
    rw[Mz]
    simp only[List.length_nil]
    exact⟨by omega,by omega,by omega,by omega,by omega,hn,.inl trivial,.inr q3,by omega,.inl trivial,ha⟩
   exact .inr (A39 ho hd P2 hX1 hX2 B1 hn ha hdl zq0 zq0 hos0 (Kw (Ey tk) (Ey mv)) zq3 (.inr ⟨B2,B3⟩) (.inr B4) of1 g1 e)
  .obtain⟨p',b,y,g,zz,of1,g1,m1⟩:=run ch (Bm s) zq0 zq0
   rw[show Dh (Bm s) n a d=some (p',(b,()))from of1,show Cn ch ((5:Int),()) d=some (y,g,(zz,()))from g1]at e
   simp only[Ae]at e
   rw[m1]at e
   simp only[Ae]at e
   exact .inr (A39 ho hd P2 hX1 hX2 q8 hn ha hdl zq0 zq0 hos0 (Ey tk) zq3 hAt0 hcd0 of1 g1 e)
 rcases F9 e with⟨_,e⟩|⟨_,e⟩
 .
  obtain⟨⟨r1,⟨os1,⟨⟩⟩,ns1,⟨⟩⟩,k1,e⟩:=Amq e
  obtain⟨X,hr1,X1,X2,X3,X4,X5,X6⟩:=Bm3 (X0:=ch) (P:=Bm s) (n:=n.1) rfl ho hd P2 hX1 hX2 q8 zq0 k1
  subst hr1
  have e:=Gz (Gz e)
  obtain⟨p',b,y,g,zz,of1,g1,m1⟩:=run X (Bm s) zq0 zq0
  rw[show Dh (Bm (Jj s X (Bm s) n.1)) n a d=some (p',(b,()))from of1,show Cn (Cm (Jj s X (Bm s) n.1)) ((5:Int),()) d=some (y,g,(zz,()))from g1]at e
  simp only[Ae]at e
  rw[m1]at e
  simp only[Ae]at e
  exact .inr (A39 ho hd X1 X2 X3 q8 hn ha hdl zq0 zq0 (A37 hos0 X5) (Kw (Ey tk) X6) zq3 hAt0 hcd0 of1 g1 e)
 .obtain⟨p',b,y,g,zz,of1,g1,m1⟩:=run ch (Bm s) zq0 zq0
  rw[show Dh (Bm s) n a d=some (p',(b,()))from of1,show Cn ch ((5:Int),()) d=some (y,g,(zz,()))from g1]at e
  simp only[Ae]at e
  rw[m1]at e
  simp only[Ae]at e
  exact .inr (A39 ho hd P2 hX1 hX2 q8 hn ha hdl zq0 zq0 hos0 (Ey tk) zq3 hAt0 hcd0 of1 g1 e)
theorem Bnc {k n:Int} (h:Jc k n=true):n<=40:=by
 unfold Jc at h
 cases k1:k==4<;>rw[k1]at h<;>simp only[cond_true,cond_false,decide_eq_true_eq]at h
 .cases k2:k==5<;>rw[k2]at h<;>simp only[cond_true,cond_false,beq_iff_eq]at h
  .cases k3:k==6<;>rw[k3]at h<;>simp only[cond_true,cond_false,beq_iff_eq]at h<;>omega
  .omega
 .exact h
theorem Tq {f:Ar} (h:B7 f=true):Aq f<=200:=by
 unfold B7 at h
 simp only[Aq]
 cases hs:inR f.1 4 8 with
 |true=>
  rw[hs]at h
  simp only[cond_true,Bool.and_eq_true,beq_iff_eq,Bj]at h
  obtain⟨h1,h2,h3,h4,h5,h6,h7,h8,h9,h10⟩:=h
  have h9':=Bnc h9
  omega
 |false=>
  rw[hs]at h
  simp only[cond_false,Bool.and_eq_true,beq_iff_eq]at h
  obtain⟨h1,h2,h3,h4,h5,h⟩:=h
  cases k1:f.1==1 with
  |true=>
   rw[k1]at h
   simp only[cond_true,Bool.and_eq_true,beq_iff_eq,Bj]at h
   omega
  |false=>
   rw[k1]at h
   simp only[cond_false]at h
   cases k2:f.1==2 with
   |true=>
    rw[k2]at h
    simp only[cond_true,Bool.and_eq_true,beq_iff_eq,Bj]at h
    omega
   |false=>
    rw[k2]at h
    simp only[cond_false,Bool.and_eq_true,beq_iff_eq,Bj]at h
    omega
theorem Bhq (b:List YB) (n:Int) (hn:0<=n) (hl:b.length<=4294967296):Du (b,()) (n,())=some ((b.take n.toNat,()),(b.drop n.toNat,())):=by
 unfold Du At3
 simp only[Af,Ag,Aa,Aj]
 by_cases h:(b.length:Int)<n
 .rw[if_pos h,Al zq0,Al zq0,Ba,Ba,Ch _ zq1]
  simp only[Ae,Ba,Int.toNat_natCast,List.take_length,Int.toNat_zero,List.drop_zero,List.drop_length]
  rw[List.take_of_length_le zq0,List.drop_eq_nil_of_le zq0]
 .rw[if_neg h,Al zq0,Al zq0,Al zq0,Ba,Ba,Ch _ zq1]
  simp only[Ae,Ba,Int.toNat_natCast,List.take_length,Int.toNat_zero,List.drop_zero]
theorem Bo6 (b:List YB) (n:Int) (hn:0<=n) (hl:b.length<=4294967296):Gf (b,()) (n,())=some ((A57 (b.take n.toNat) 0 n).1,(b.drop n.toNat,())):=by
 unfold Gf Aov
 simp only[Af,Ag,Aa,Aj]
 rw[Bhq b n hn hl]
 simp only[Ae]
 rw[Bly _ _ _ zq1]
 simp only[Ae]
def WL (b:YBs):Prop:=wfB b.1/\b.1.length<=4294967296
theorem Bnd (b:YBs) (n:YI) (hn:0<=n.1) (h:WL b):Tot (fun r=>wfB r.1.1/\WL r.2) (Du b n):=by
 rw[show Du b n=_ from Bhq b.1 n.1 hn h.2]
 exact Ah ⟨Bov h.1,Bc8 h.1,by have:=h.2;simp;omega⟩
theorem Bka (b:YBs) (n:YI) (hn:0<=n.1) (h:WL b):Tot (fun r=>True/\WL r.2) (Gf b n):=by
 rw[show Gf b n=_ from Bo6 b.1 n.1 hn h.2]
 exact Ah ⟨trivial,Bc8 h.1,by have:=h.2;simp;omega⟩
def GFP (b:YBs) (r:Ar×(Bool×Unit)):Prop:=r.2.1=true->B7 r.1=true/\wfB r.1.2.2.2.1/\wfB r.1.2.2.1/\Dz (Pd r.1) b.1=true
theorem Bq2 (b:YBs) (F X:Ar) (h1:wfB F.2.2.2.1) (h2:wfB F.2.2.1):Tot (GFP b) (ob (Db F) fun r=>br (!r.1) (some (X,(false,()))) (ob (El F) fun r5=>ob (Cf r5 b) fun r6=>br (!r6.1) (some (X,(false,()))) (some (F,(true,()))))):=by
 rw[Kv,Ae]
 refine An (fun _=>Ah (fun h=>by cases h)) (fun hf=>?_)
 have hf:B7 F=true:=by simpa using hf
 have hn:=Tq hf
 rw[A3t F zq0,Ae,I5,Ae]
 refine An (fun _=>Ah (fun h=>by cases h)) (fun he=>?_)
 exact Ah (fun _=>⟨hf,h1,h2,by simpa using he⟩)
theorem Bgl (b:YBs) (h:WL b):Tot (GFP b) (Rw b):=by
 unfold Rw Afu
 simp only[Af,Ag,Aa,Aj]
 have w0:=Gw
 repeat' first
  |exact Bq2 _ _ _ Ni Ni
  |refine Ad (Bnd _ _ zq7 Ni) (fun r ⟨_,_⟩=>?_)
  |refine Ad (Bka _ _ zq7 Ni) (fun r ⟨_,_⟩=>?_)
  |refine An (fun _=>?_) (fun _=>?_)
  |rw[Aae,Ae]
end
end Go.Proofs.YtnbbbaplphcebaaGreat

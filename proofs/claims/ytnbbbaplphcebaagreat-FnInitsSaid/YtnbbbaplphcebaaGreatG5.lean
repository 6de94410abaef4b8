/-
  That the program and the reference answer alike, in plain terms, and that the laws answer true.
-/
import Derived.Test.YtnbbbaplphcebaaGreatG4
namespace Go.Proofs.YtnbbbaplphcebaaGreat
open Go.RowKit
set_option linter.unusedVariables false
set_option linter.unusedSimpArgs false
set_option maxRecDepth 100000
set_option maxHeartbeats 8000000
noncomputable section
def Aqs (x:Ao):Prop:=Cn (x.1,x.2.1,())=true/\(0<=x.2.2.1/\x.2.2.1<=1000000)/\(0<=x.2.2.2.1/\x.2.2.2.1<=3*x.2.2.1)
def Bnd (a b:Ao):Prop:=eqA a.1 a.2.1 b.1 b.2.1=false
theorem Du {l:List Ao}:Ck l=true↔l.length<=8/\(∀x∈l,Aqs x)/\l.Pairwise Bnd:=by
 have hq: ∀(i:Nat) (x:Ao),l[i]? =some x->(Tl l i x=false↔Aqs x/\D3 (fun _ (y:Ao)=>eqA y.1 y.2.1 x.1 x.2.1) (l.take i)=true):=fun i x hx=>by
  unfold Tl C7 Aqs
  rw[Awl (q:=fun y:Ao=>eqA y.1 y.2.1 x.1 x.2.1) hx (Bcm _ _)]
  simp only[Bool.not_not,Bool.not_eq_false',Bool.and_eq_true,Bj]
  constructor
  .rintro⟨h1,h2,h3,h4⟩
   rw[w64 zq0]at h3
   exact⟨⟨h1,h2,h3⟩,h4⟩
  .rintro⟨⟨h1,h2,h3⟩,h4⟩
   rw[w64 zq0]
   exact⟨h1,h2,h3,h4⟩
 unfold Ck
 simp only[Bool.and_eq_true,Bool.not_eq_true',decide_eq_false_iff_not]
 rw[G7,List.pairwise_iff_getElem]
 constructor
 .rintro⟨h0,h⟩
  refine⟨by omega,fun x hx=>?_,fun i j hi hj hij=>?_⟩
  .obtain⟨j,hj⟩:=List.getElem?_of_mem hx
   exact((hq j x hj).1 (h j x hj)).1
  .have h1:=((hq j l[j] (List.getElem?_eq_getElem hj)).1 (h j l[j] (List.getElem?_eq_getElem hj))).2
   rw[G7]at h1
   exact h1 i l[i] (by rw[List.getElem?_take,if_pos hij];exact List.getElem?_eq_getElem hi)
 .rintro⟨h0,h1,h2⟩
  refine⟨by omega,fun j x hj=>(hq j x hj).2 ⟨h1 x (List.mem_of_getElem? hj),G7.2 fun i y hi=>?_⟩⟩
  rw[List.getElem?_take]at hi
  split at hi
  .rename_i hlt
   obtain⟨k1,k2⟩:=List.getElem?_eq_some_iff.1 hi
   obtain⟨k3,k4⟩:=List.getElem?_eq_some_iff.1 hj
   have:=h2 i j k1 k3 hlt
   rw[k2,k4]at this
   exact this
  .cases hi
theorem Avs {l:List Ao} {a:A7} (h:0<=C7 l a): ∃x,l[(C7 l a).toNat]? =some x/\x.1=a.1/\x.2.1=a.2.1:=by
 unfold C7 Lv at h ⊢
 cases hf:H8 (fun _ (x:Ao)=>eqA x.1 x.2.1 a.1 a.2.1) l 0 with
 |none=>rw[hf]at h;simp at h
 |some k=>
  obtain⟨j,y,hk,h2,h3,_⟩:=R8 hf
  have hk:k=j:=by omega
  subst hk
  have h3:=Amo.1 h3
  exact⟨y,by simpa using h2,h3.1,h3.2⟩
theorem Bak {l:List Ao} {a:A7} (h:C7 l a<0): ∀x∈l,eqA x.1 x.2.1 a.1 a.2.1=false:=fun x hx=>by
 obtain⟨i,hi⟩:=List.getElem?_of_mem hx
 cases hs:eqA x.1 x.2.1 a.1 a.2.1 with
 |false=>rfl
 |true=>
  have:=(Aeo (q:=fun y:Ao=>eqA y.1 y.2.1 a.1 a.2.1) hi hs).1
  unfold C7 at h
  omega
theorem Bdo {l:List Ao} {i:Nat} {x y:Ao} (h:Ck l=true) (hx:l[i]? =some x) (h1:y.1=x.1) (h2:y.2.1=x.2.1) (hy:Aqs y):Ck (l.set i y)=true:=by
 obtain⟨q1,q2,q3⟩:=Du.1 h
 refine Du.2 ⟨by simpa using q1,fun z hz=>?_,?_⟩
 .rcases List.mem_or_eq_of_mem_set hz with hz|hz
  .exact q2 z hz
  .rw[hz];exact hy
 .rw[List.pairwise_iff_getElem]at q3 ⊢
  intro a b ha hb hab
  have ha':a<l.length:=by simpa using ha
  have hb':b<l.length:=by simpa using hb
  have hq:=q3 a b ha' hb' hab
  obtain⟨hi,hxi⟩:=List.getElem?_eq_some_iff.1 hx
  have e: ∀(j:Nat) (hj:j<(l.set i y).length) (hj':j<l.length),(l.set i y)[j].1=l[j].1/\(l.set i y)[j].2.1=l[j].2.1:=fun j hj hj'=>by
   rw[List.getElem_set]
   split
   .rename_i hij
    subst hij
    rw[hxi]
    exact⟨h1,h2⟩
   .exact⟨rfl,rfl⟩
  unfold Bnd at hq ⊢
  rw[(e a ha ha').1,(e a ha ha').2,(e b hb hb').1,(e b hb hb').2]
  exact hq
def Gf:List Ao->Int
 |[]=>0
 |x::r=>x.2.2.2.1+Gf r
theorem A8s: ∀ {a b:List Ao},Gf (a++b)=Gf a+Gf b
 |[],b=>by simp[Gf]
 |x::a,b=>by simp only[List.cons_append,Gf,A8s];omega
theorem Avt: ∀ {l:List Ao} {i:Nat} {x y:Ao},l[i]? =some x->Gf (l.set i y)=Gf l-x.2.2.2.1+y.2.2.2.1
 |[],i,x,y,h=>by simp at h
 |a::r,0,x,y,h=>by
  simp at h;subst h
  simp only[List.set_cons_zero,Gf];omega
 |a::r,i+1,x,y,h=>by
  have:=Avt (l:=r) (i:=i) (x:=x) (y:=y) (by simpa using h)
  simp only[List.set_cons_succ,Gf];omega
def Vi (l:List Ao) (a:A7) (n:Int):List Ao:=
 if Ck l=true/\Cn a=true/\inR n 0 1000000=true then
  if C7 l a<0 then(if l.length=8 then l else l++[(a.1,a.2.1,n,(0:Int),())])
  else match l[(C7 l a).toNat]? with
   |some x=>l.set (C7 l a).toNat (x.1,x.2.1,(if x.2.2.1+n>1000000 then 1000000 else x.2.2.1+n),x.2.2.2.1,())
   |none=>l
 else l
theorem Bdp {l:List Ao} {a:A7} {n:Int} (h:Ck l=true):Ck (Vi l a n)=true/\Gf (Vi l a n)=Gf l:=by
 unfold Vi
 split
 .rename_i hc
  obtain⟨c1,c2,c3⟩:=hc
  have c3:=Bj.1 c3
  obtain⟨q1,q2,q3⟩:=Du.1 h
  split
  .rename_i hneg
   split
   .exact⟨h,rfl⟩
   .refine⟨Du.2 ⟨by simp;omega,fun x hx=>?_,?_⟩,by rw[A8s];simp[Gf]⟩
    .rcases List.mem_append.1 hx with hx|hx
     .exact q2 x hx
     .simp only[List.mem_singleton]at hx
      rw[hx]
      exact⟨c2,c3,by simp;omega⟩
    .refine List.pairwise_append.2 ⟨q3,List.pairwise_singleton _ _,fun x hx y hy=>?_⟩
     simp only[List.mem_singleton]at hy
     subst hy
     exact Bak hneg x hx
  .rename_i hpos
   obtain⟨x,hx,_,_⟩:=Avs (l:=l) (a:=a) zq0
   rw[hx]
   obtain⟨g1,g2,g3⟩:=q2 x (List.mem_of_getElem? hx)
   refine⟨Bdo h hx rfl rfl ⟨g1,?_,?_⟩,?_⟩
   .dsimp only;split<;>omega
   .dsimp only;split<;>omega
   .rw[Avt hx];dsimp only;omega
 .exact⟨h,rfl⟩
theorem Bne (l:List Ao) (a:A7) (n:Int):(Vi l a n).length<=l.length+1:=by
 unfold Vi
 split
 .split
  .split<;>simp
  .split<;>simp
 .omega
def Sd (l:List Ao) (a:A7) (n:Int):Option (List Ao):=
 if Ck l=true/\0<=C7 l a then
  match l[(C7 l a).toNat]? with
  |some x=>if inR n 0 (3*x.2.2.1-x.2.2.2.1)=true then some (l.set (C7 l a).toNat (x.1,x.2.1,x.2.2.1,x.2.2.2.1+n,()))else none
  |none=>none
 else none
theorem A8t {l r:List Ao} {a:A7} {n:Int} (h:Sd l a n=some r):Ck l=true/\Ck r=true/\Gf r=Gf l+n/\r.length=l.length:=by
 unfold Sd at h
 split at h
 .rename_i hc
  split at h
  .rename_i x hx
   split at h
   .rename_i hn
    cases h
    have hn:=Bj.1 hn
    obtain⟨q1,q2,q3⟩:=Du.1 hc.1
    obtain⟨g1,g2,g3⟩:=q2 x (List.mem_of_getElem? hx)
    refine⟨hc.1,Bdo hc.1 hx rfl rfl ⟨g1,g2,?_⟩,?_,by simp⟩
    .dsimp only;omega
    .rw[Avt hx];dsimp only;omega
   .cases h
  .cases h
 .cases h
theorem Aes {l:List Ao} {a:A7} (h:0<=C7 l a): ∃x,l[(C7 l a).toNat]? =some x/\idx l (C7 l a)=some x:=by
 obtain⟨x,hx,_⟩:=Avs h
 refine⟨x,hx,?_⟩
 unfold idx;rw[if_pos h];exact hx
theorem Bo6 {l:List Ao} {n:Int} {x y:Ao} (h:0<=n) (hx:l[n.toNat]? =some x):idx (l.set n.toNat y) n=some y:=by
 unfold idx
 rw[if_pos h,List.getElem?_set_self (List.getElem?_eq_some_iff.1 hx).1]
theorem Bq4 (l:List Ao) (a:A7) (n:YI) (h:l.length<=1000):Agl (l,()) a n=some (Vi l a n.1,()):=by
 unfold Agl An1 Vi
 simp only[Af,Ag,Aa,Aj,List.length_nil,List.nil_append,Nat.zero_add]
 rw[Al zq0,Ba,Kr l zq0,Ae,Ir,Ae,Cq,Ae,Aae l a zq0,Ae]
 by_cases hc:Ck l=true/\Cn a=true/\inR n.1 0 1000000=true
 .obtain⟨c1,c2,c3⟩:=hc
  have c4:=Bj.1 c3
  rw[if_pos ⟨c1,c2,c3⟩,c1,c2,c3]
  simp only[Bool.not_true,An]
  by_cases hneg:C7 l a<0
  .rw[if_pos hneg,Al hneg,A9]
   by_cases h8:l.length=8
   .have:((l.length:Int)==8)=true:=by simp;omega
    rw[if_pos h8,this,A9]
   .have:((l.length:Int)==8)=false:=by simp;omega
    rw[if_neg h8,this,An,Al zq1,Ba]
  .obtain⟨x,hx,hi⟩:=Aes (l:=l) (a:=a) zq0
   obtain⟨_,q2,_⟩:=Du.1 c1
   obtain⟨_,g2,_⟩:=q2 x (List.mem_of_getElem? hx)
   rw[if_neg hneg,Bq hneg,An,hi,hx]
   simp only[Ae]
   rw[Bo6 zq0 hx]
   simp only[Ae]
   rw[w64 zq0]
   by_cases hm:x.2.2.1+n.1>1000000
   .rw[Al hm,A9,if_pos hm,List.set_set]
   .rw[Bq hm,An,if_neg hm]
 .rw[if_neg hc]
  cases e1:Ck l with
  |false=>rfl
  |true=>
   cases e2:Cn a with
   |false=>rfl
   |true=>
    cases e3:inR n.1 0 1000000 with
    |false=>rfl
    |true=>exact(hc ⟨e1,e2,e3⟩).elim
theorem Bkf (l:List Ao) (a:A7) (h:l.length<=1000): ∃r,Nc (l,()) a=some (r,())/\(Ck l=true-> ∀x,0<=C7 l a->l[(C7 l a).toNat]? =some x->r=3*x.2.2.1-x.2.2.2.1):=by
 unfold Nc Ud
 simp only[Af,Ag,Aa]
 rw[Aae l a zq0,Ae,Kr l zq0,Ae]
 cases e1:Ck l with
 |false=>exact⟨_,rfl,fun h=>(by cases h)⟩
 |true=>
  simp only[Bool.not_true,An]
  by_cases hneg:C7 l a<0
  .rw[Al hneg];exact⟨_,rfl,fun _ x h=>by omega⟩
  .obtain⟨x,hx,hi⟩:=Aes (l:=l) (a:=a) zq0
   obtain⟨_,q2,_⟩:=Du.1 e1
   obtain⟨_,g2,g3⟩:=q2 x (List.mem_of_getElem? hx)
   rw[Bq hneg,An,hi]
   simp only[Ae]
   rw[w64 (n:=3*x.2.2.1) zq0,w64 zq0]
   refine⟨_,rfl,fun _ y _ hy=>?_⟩
   rw[hx]at hy;cases hy;rfl
theorem Bo7 (l:List Ao) (a:A7) (n:YI) (h:l.length<=1000):Rr (l,()) a n=some (match Sd l a n.1 with|some r=>((r,()),(true,()))|none=>((l,()),(false,()))):=by
 obtain⟨rm,r1,r2⟩:=Bkf l a h
 unfold Rr Ahx
 simp only[Af,Ag,Aa,Aj,List.length_nil,List.nil_append,Nat.zero_add]
 rw[Al zq0,Ba,Aae l a zq0,Ae,Kr l zq0,Ae,r1,Ae,Cq,Ae]
 unfold Sd
 by_cases hneg:C7 l a<0
 .rw[Al hneg,A9,if_neg zq0]
 .rw[Bq hneg,An]
  cases e1:Ck l with
  |false=>rw[if_neg zq3];rfl
  |true=>
   obtain⟨x,hx,hi⟩:=Aes (l:=l) (a:=a) zq0
   obtain⟨_,q2,_⟩:=Du.1 e1
   obtain⟨_,g2,g3⟩:=q2 x (List.mem_of_getElem? hx)
   have hr:=r2 e1 x zq0 hx
   subst hr
   rw[if_pos ⟨rfl,by omega⟩,hx,hi]
   simp only[Bool.not_true,An,Ae]
   cases hn:inR n.1 0 (3*x.2.2.1-x.2.2.2.1)with
   |false=>rfl
   |true=>
    have:=Bj.1 hn
    rw[w64 zq0]
    rfl
theorem Bgn {b:List YB} {a0:Aw} (n:YI) (hc:Bv b a0) (hn:0<=n.1/\n.1<=20):Tot (fun r=>Ck r.1.1=true/\Bv b r.2) (Uq a0 n):=by
 unfold Uq Aa9
 simp only[Af,Ag,Aa,Aj]
 rw[w64 zq0]
 refine Ad (Bf _ hc zq2) (fun r1 ⟨h1,h1c⟩=>?_)
 have h1b:0<=r1.1.1/\r1.1.1<=20:=⟨h1.1,by rcases h1.2 with q|q<;>(try dsimp only at q)<;>omega⟩
 refine Ad (Q:=fun o:(List Ao)×(List YB)×Int×Int×Unit=>Ck o.1=true/\Bv b (o.2.1,o.2.2.1,o.2.2.2.1,())) ?_ (fun o ho=>Ah ho)
 refine Xy (fun i d=>d.2.1=r1.1.1-(i:Int)/\Ck d.1=true/\d.2.2.1=a0.1/\Bv b (d.2.2.1,d.2.2.2.1,d.2.2.2.2.1,())) _ r1.1.1.toNat ?_ ?_ ⟨by dsimp only;omega,rfl,rfl,Ab hc h1c⟩
 .rintro i ⟨l,k,c1,c2,c3,⟨⟩⟩ hi ⟨q1,q2,q3,q4⟩
  dsimp only at q1 q2 q3 q4
  subst q1 q3
  have hl:=(Du.1 q2).1
  unfold L5
  simp only[Af,Ag,Aa,Aj]
  rw[Al zq0,A9]
  refine Ad (Bf _ q4 zq7) (fun r3 ⟨_,h3c⟩=>?_)
  refine Ad (Pe _) (fun r4 _=>?_)
  refine Ad (Ji _ (Ab hc h3c) zq7) (fun r5 h5c=>?_)
  rw[Bq4 l r4 r5.1 zq0,Ae]
  have hg:=(Bdp (a:=r4) (n:=r5.1.1) q2).1
  have hgl:=(Du.1 hg).1
  refine Ad (Ji _ (Ab hc h5c) zq7) (fun r7 h7c=>?_)
  rw[show Rr _ r4 r7.1=_ from Bo7 (Vi l r4 r5.1.1) r4 r7.1 zq0,Ae]
  have hnx:IntKind.i64.wrap (r1.1.1-(i:Int)-1)=r1.1.1-((i+1:Nat):Int):=by rw[w64 zq0];omega
  cases hs:Sd (Vi l r4 r5.1.1) r4 r7.1.1 with
  |none=>exact Ah ⟨_,rfl,hnx,hg,rfl,(show Bv b (a0.1,r7.2.2.1,r7.2.2.2.1,())from Ab hc h7c)⟩
  |some q=>exact Ah ⟨_,rfl,hnx,(A8t hs).2.1,rfl,(show Bv b (a0.1,r7.2.2.1,r7.2.2.2.1,())from Ab hc h7c)⟩
 .rintro⟨l,k,c1,c2,c3,⟨⟩⟩ ⟨q1,q2,q3,q4⟩
  dsimp only at q1 q2 q3 q4
  unfold L5
  simp only[Af,Ag,Aa,Aj]
  rw[Bq zq0,An]
  exact Ah ⟨_,rfl,q2,q4⟩
def VP (t:Ch):Prop:=∀x∈t.2.1,Cs x=true
theorem Avu {M K:Nat} (t:Ch) (s:Ak) (ht:TP M K t) (hs:SP K s) (hb:M+M*K+K<=1073741824) (hv:VP t) (ho:Cs s=true):Tot (fun r=>TP (M+1) K r.1/\VP r.1/\(Hl t=true->Hl r.1=true)/\ ∀x∈r.1.2.1,x∈t.2.1\/x=s) (Qm t s):=by
 have hn:=ht.need
 have hs1:=hs.1
 have hl1:=ht.1
 obtain⟨r,b,e1,e2,_⟩:=A30 t s zq0
 obtain⟨⟨r',b',⟨⟩⟩,e3,h3⟩:=Bkd t s zq0
 rw[e1]at e3
 simp only[Option.some.injEq,Prod.mk.injEq,and_true]at e3
 obtain⟨rfl,rfl⟩:=e3
 refine⟨_,e2,?_⟩
 dsimp only
 dsimp only at h3
 by_cases hc:b=0
 .have hadd:=Bna zq0 h3 hc
  obtain⟨_,_,_,_,_,_,e⟩:=h3.2 hc
  refine⟨?_,fun x hx=>?_,fun _=>hadd.1,fun x hx=>?_⟩
  .subst e
   refine⟨by have:=ht.1;simp;omega,fun x hx=>?_⟩
   rcases List.mem_append.1 hx with hx|hx
   .exact ht.2 x hx
   .simp at hx;rw[hx];exact hs
  .subst e
   rcases List.mem_append.1 hx with hx|hx
   .exact hv x hx
   .simp at hx;rw[hx];exact ho
  .subst e
   rcases List.mem_append.1 hx with hx|hx
   .exact .inl hx
   .simp at hx;exact .inr hx
 .have e:r=t:=h3.1 hc
  subst e
  exact⟨ht.le zq0 (Nat.le_refl _),hv,fun h=>h,fun x hx=>.inl hx⟩
theorem Bnf (s:Ak) (h:SP 20000 s) (ho:Cs s=true):Tot (fun r=>SP 20000 r/\Cs r=true) (Zx s):=by
 have hn:=h.1
 obtain⟨r,_,e,_,h2,_⟩:=Bow s zq0 ho
 exact(A8q s h zq7).both ⟨r,e,h2⟩
theorem Bgo {b:List YB} {a0:Aw} (hc:Bv b a0):Tot (fun r=>(TP 6 20000 r.1/\VP r.1)/\Bv b r.2) (Up a0):=by
 unfold Up Aa8
 simp only[Af,Ag,Aa,Aj]
 refine Ad (Bf _ hc zq7) (fun r1 ⟨_,h1c⟩=>?_)
 refine Ad (A4a _) (fun r2 h2=>?_)
 refine Ad (Bf _ (Ab hc h1c) zq7) (fun r3 ⟨h3,h3c⟩=>?_)
 have h3b:0<=r3.1.1/\r3.1.1<6:=⟨h3.1,by rcases h3.2 with q|q<;>omega⟩
 have h2n:r2.2.1=[]:=List.eq_nil_of_length_eq_zero h2
 refine Ad (Q:=fun o:(List YB)×Int×Int×Int×(List Ak)×Int×(List Ak)×Unit=>(TP 6 20000 (o.2.2.2.2.2.1,o.2.2.2.2.2.2.1,())/\VP (o.2.2.2.2.2.1,o.2.2.2.2.2.2.1,()))/\Bv b (o.1,o.2.1,o.2.2.1,())) ?_ (fun o ho=>Ah ⟨ho.1,ho.2⟩)
 refine Xy (fun i d=>d.1=r3.1.1-(i:Int)/\(TP i 20000 (d.2.2.2.2.2.2.1,d.2.2.2.2.2.2.2.1,())/\VP (d.2.2.2.2.2.2.1,d.2.2.2.2.2.2.2.1,()))/\d.2.1=a0.1/\Bv b (d.2.1,d.2.2.1,d.2.2.2.1,())) _ r3.1.1.toNat ?_ ?_ ⟨by omega,⟨⟨by show r2.2.1.length<=0;omega,fun x hx=>by rw[h2n]at hx;cases hx⟩,fun x hx=>by dsimp only at hx;rw[h2n]at hx;cases hx⟩,rfl,Ab hc h3c⟩
 .rintro i ⟨n,c1,c2,c3,z,zl,cap,l,⟨⟩⟩ hi ⟨q1,⟨q2,qv⟩,q3,q4⟩
  dsimp only at q1 q2 qv q3 q4
  subst q1 q3
  unfold L4
  simp only[Af,Ag,Aa,Aj]
  rw[Al zq0,A9]
  have hnext:IntKind.i64.wrap (r3.1.1-(i:Int)-1)=r3.1.1-((i+1:Nat):Int):=by rw[w64 zq0];omega
  refine Ad ((Ay8 q4).both (Bgg q4)) (fun r5 ⟨⟨h5,h5c⟩,⟨h5v,_⟩,_⟩=>?_)
  have h5s:SP 20000 r5.1:=h5.le zq7
  refine Ad (Avu (M:=i) (K:=20000) _ _ q2 h5s zq0 qv h5v) (fun r6 ⟨h6,h6v,_⟩=>?_)
  refine Am (fun hp=>?_) (fun _=>?_)
  .simp only[decide_eq_true_eq]at hp
   refine Ad (Az _ (Ab hc h5c) zq7) (fun r7 h7c=>?_)
   refine Am (fun _=>?_) (fun _=>?_)
   .have h6l:=h6.1
    refine Ad (Bf _ (Ab hc h7c) zq2) (fun r8 ⟨h8,h8c⟩=>?_)
    have h8b:0<=r8.1.1/\r8.1.1<(r6.1.2.1.length:Int):=⟨h8.1,by rcases h8.2 with q|q<;>(try dsimp only at q)<;>omega⟩
    refine Ad (Ez (P:=fun x=>SP 20000 x/\Cs x=true) h8b.1 h8b.2 (fun x hx=>⟨h6.2 x hx,h6v x hx⟩)) (fun e9 ⟨h9,h9v⟩=>?_)
    refine Ad (Bnf _ h9 h9v) (fun r10 ⟨h10,h10v⟩=>?_)
    refine Ad (Ez (P:=fun _=>True) h8b.1 h8b.2 (fun x hx=>trivial)) (fun e11 _=>?_)
    refine Ah ⟨_,rfl,hnext,⟨⟨by simpa using h6.1,fun x hx=>?_⟩,fun x hx=>?_⟩,rfl,Ab hc h8c⟩
    .rcases A04 hx with hx|hx
     .exact h6.2 x hx
     .rw[hx];exact h10
    .rcases A04 hx with hx|hx
     .exact h6v x hx
     .rw[hx];exact h10v
   .exact Ah ⟨_,rfl,hnext,⟨h6,h6v⟩,rfl,Ab hc h7c⟩
  .exact Ah ⟨_,rfl,hnext,⟨h6,h6v⟩,rfl,Ab hc h5c⟩
 .rintro⟨n,c1,c2,c3,z,zl,cap,l,⟨⟩⟩ ⟨q1,⟨q2,qv⟩,q3,q4⟩
  dsimp only at q1 q2 qv q3 q4
  unfold L4
  simp only[Af,Ag,Aa,Aj]
  rw[Bq zq0,An]
  exact Ah ⟨_,rfl,⟨q2.le zq0 (Nat.le_refl _),qv⟩,q4⟩
theorem Bo8 (n:YI) (h:1<=n.1/\n.1<=6):O5 n=some (n.1,([]:List Ak),()):=by
 unfold O5 Adm
 simp only[Ag,Af,Aa,Cq,Ae]
 rw[Bj.2 h];rfl
def A05 (l:List YBs):Prop:=(1<=l.length/\l.length<=3)/\ ∀x∈l,1<=x.1.length/\x.1.length<=32
theorem Bgp {b:List YB} {a0:Aw} (hc:Bv b a0):Tot (fun r=>A05 r.1.1/\Bv b r.2) (Ul a0):=by
 unfold Ul Aaz
 simp only[Af,Ag,Aa,Aj]
 refine Ad (Bf _ hc zq7) (fun r1 ⟨h1,h1c⟩=>?_)
 have h1b:0<=r1.1.1/\r1.1.1<3:=⟨h1.1,by rcases h1.2 with q|q<;>(try dsimp only at q)<;>omega⟩
 rw[w64 zq0]
 refine Ad (Q:=fun o:(List YBs)×(List YB)×Int×Int×Unit=>A05 o.1/\Bv b (o.2.1,o.2.2.1,o.2.2.2.1,())) ?_ (fun o ho=>Ah ho)
 refine Xy (fun i d=>d.2.1=1+r1.1.1-(i:Int)/\(d.1.length=i/\ ∀x∈d.1,1<=x.1.length/\x.1.length<=32)/\d.2.2.1=a0.1/\Bv b (d.2.2.1,d.2.2.2.1,d.2.2.2.2.1,())) _ (1+r1.1.1).toNat ?_ ?_ ⟨by dsimp only;omega,⟨rfl,fun x hx=>by cases hx⟩,rfl,Ab hc h1c⟩
 .rintro i ⟨l,k,c1,c2,c3,⟨⟩⟩ hi ⟨q1,q2,q3,q4⟩
  dsimp only at q1 q2 q3 q4
  subst q1 q3
  unfold Ly
  simp only[Af,Ag,Aa,Aj]
  rw[Al zq0,A9]
  refine Ad (Bf _ q4 zq7) (fun r3 ⟨h3,h3c⟩=>?_)
  have h3b:0<=r3.1.1/\r3.1.1<32:=⟨h3.1,by rcases h3.2 with q|q<;>(try dsimp only at q)<;>omega⟩
  refine Ad (C4 _ (Ab hc h3c) (by dsimp only;rw[w64 zq0];omega)) (fun r4 ⟨⟨h4,_⟩,h4c⟩=>?_)
  dsimp only at h4
  rw[w64 zq0]at h4
  refine Eh (Al zq1) (Ah ⟨_,rfl,?_,⟨by simp;omega,fun x hx=>?_⟩,rfl,(show Bv b (a0.1,r4.2.2.1,r4.2.2.2.1,())from Ab hc h4c)⟩)
  .dsimp only;rw[w64 zq0];omega
  .dsimp only at hx
   rcases List.mem_append.1 hx with hx|hx
   .exact q2.2 x hx
   .simp only[List.mem_singleton]at hx
    rw[hx];omega
 .rintro⟨l,k,c1,c2,c3,⟨⟩⟩ ⟨q1,q2,q3,q4⟩
  dsimp only at q1 q2 q3 q4
  unfold Ly
  simp only[Af,Ag,Aa,Aj]
  rw[Bq zq0,An]
  exact Ah ⟨_,rfl,⟨by dsimp only;omega,q2.2⟩,q4⟩
theorem A05.psk {l:List YBs} (h:A05 l):D3 (fun _ x=> !G6 x) l=true:=G7.2 fun j x hj=>by
 have:=h.2 x (List.mem_of_getElem? hj)
 show(!G6 x)=false
 unfold G6
 rw[Bj.2 zq0];rfl
theorem A05.sum {l:List YBs} (h:A05 l):Bu Ey l<=96:=PP.sum (M:=3) ⟨h.1.2,fun x hx=>(h.2 x hx).2⟩
theorem A6g (ps:List YBs×Unit) (sd:YBs) (n:YI) (hp:A05 ps.1) (hs:sd.1.length=8) (hn:1<=n.1/\n.1<=4):Tot (fun r=>Fd r=true/\r.1=ps.1/\r.2.2.2.2.2.1=[]) (Px ps sd n):=by
 have h3:=hp.sum
 have h4:=hp.1
 have hd:Fw (sd.1,(0:Int),())=true:=by
  unfold Fw
  rw[hs]
  show(inR ((8:Nat):Int) 1 32 && inR (0:Int) 0 10000)=true
  decide
 have hroll:Gy (sd.1,(0:Int),())=((sd.1,(0:Int)+1,()),Oc sd.1 0):=by
  unfold Gy;rw[if_pos ⟨hd,by show(0:Int)≠10000;decide⟩]
 have hj:=Bnc (A8r hd)
 unfold Px U6
 simp only[Af,Ag,Aa]
 rw[Bmm _ zq2,hroll]
 simp only[Ae,Bc1]
 rw[Bo8 n zq0]
 simp only[Ae]
 rw[A8h ps.1 zq0]
 simp only[Ae]
 have hn':Bo (ps.1,Xw (Oc sd.1 0),sd.1,(0:Int)+1,n.1,([]:List Ak),([]:List Ao),())<=1000:=by
  simp only[Bo,List.length_nil,Bu];omega
 have ho:Fd (ps.1,Xw (Oc sd.1 0),sd.1,(0:Int)+1,n.1,([]:List Ak),([]:List Ao),())=true:=by
  refine Es.2 ⟨Bj.2 zq2,by rw[hj];rfl,?_,?_,rfl,hp.psk,fun x hx=>by cases hx⟩
  .unfold Fw
   dsimp only
   rw[hs];decide
  .exact(Aci zq3).2 ⟨by dsimp only;omega,by simp,by simp[E7];omega,(fun x hx=>by cases hx),.nil⟩
 rw[A3z _ zq0,ho]
 simp only[Ae,Bool.not_true,An]
 exact Ah ⟨ho,rfl,rfl⟩
theorem Bgq {b:List YB} {a0:Aw} (hc:Bv b a0):Tot (fun r=>Fd r.1=true/\Bv b r.2) (Ur a0):=by
 unfold Ur Aba
 simp only[Af,Ag,Aa,Aj]
 refine Ad (Bgp hc) (fun r1 ⟨h1,h1c⟩=>?_)
 refine Ad (C4 _ (Ab hc h1c) zq7) (fun r2 ⟨⟨h2,_⟩,h2c⟩=>?_)
 refine Ad (Bf _ (Ab hc h2c) zq7) (fun r3 ⟨h3,h3c⟩=>?_)
 have h3b:0<=r3.1.1/\r3.1.1<4:=⟨h3.1,by rcases h3.2 with q|q<;>(try dsimp only at q)<;>omega⟩
 have h2':r2.1.1.length=8:=h2
 rw[w64 (n:=1+r3.1.1) zq0]
 refine Ad (A6g _ _ _ h1 h2' zq2) (fun r4 ⟨h4,h4p,h4t⟩=>?_)
 obtain⟨a1,a2,a3,a4,a5,a6,a7⟩:=Es.1 h4
 refine Ad (Bgo (Ab hc h3c)) (fun r5 ⟨⟨h5,h5v⟩,h5c⟩=>?_)
 refine Ad (Q:=fun o:(List YB)×Int×Int×(List YBs)×(List YB)×(List YB)×Int×Int×(List Ak)×(List Ao)×(List YBs)×(List YB)×(List YB)×Int×Int×(List Ak)×(List Ao)×Unit=>(o.2.2.2.2.2.2.2.2.2.2.1=r4.1/\o.2.2.2.2.2.2.2.2.2.2.2.1=r4.2.1/\o.2.2.2.2.2.2.2.2.2.2.2.2.1=r4.2.2.1/\Hl (o.2.2.2.2.2.2.2.2.2.2.2.2.2.2.1,o.2.2.2.2.2.2.2.2.2.2.2.2.2.2.2.1,())=true/\ ∀x∈o.2.2.2.2.2.2.2.2.2.2.2.2.2.2.2.1,x.1<=(r4.1.length:Int))/\o.1=a0.1/\Bv b (o.1,o.2.1,o.2.2.1,())) ?_ (fun o ⟨⟨o1,o2,o3,o4,o7⟩,o5,o6⟩=>?_)
 .have h5l:=h5.1
  refine Xy (fun i d=>d.1=(i:Int)/\d.2.2.2.2.2.2.2.2.2.2.2.2.2.2.2.2.2.2.2.1=r5.1.2.1/\(d.2.2.2.2.2.2.2.2.2.2.2.1=r4.1/\d.2.2.2.2.2.2.2.2.2.2.2.2.1=r4.2.1/\d.2.2.2.2.2.2.2.2.2.2.2.2.2.1=r4.2.2.1/\TP i 20000 (d.2.2.2.2.2.2.2.2.2.2.2.2.2.2.2.1,d.2.2.2.2.2.2.2.2.2.2.2.2.2.2.2.2.1,())/\VP (d.2.2.2.2.2.2.2.2.2.2.2.2.2.2.2.1,d.2.2.2.2.2.2.2.2.2.2.2.2.2.2.2.2.1,())/\Hl (d.2.2.2.2.2.2.2.2.2.2.2.2.2.2.2.1,d.2.2.2.2.2.2.2.2.2.2.2.2.2.2.2.2.1,())=true/\ ∀x∈d.2.2.2.2.2.2.2.2.2.2.2.2.2.2.2.2.1,x.1<=(r4.1.length:Int))/\d.2.1=a0.1/\Bv b (d.2.1,d.2.2.1,d.2.2.2.1,())) _ r5.1.2.1.length ?_ ?_ ⟨rfl,rfl,⟨rfl,rfl,rfl,⟨(by dsimp only;rw[h4t];simp),fun x hx=>(by dsimp only at hx;rw[h4t]at hx;cases hx)⟩,fun x hx=>(by dsimp only at hx;rw[h4t]at hx;cases hx),a4,a7⟩,rfl,Ab hc h5c⟩
  .rintro i ⟨k,c1,c2,c3,z0,z1,z2,z3,z4,z5,z6,s0,s1,s2,s3,s4,s5,s6,tc,tl,⟨⟩⟩ hi ⟨q1,q2,⟨q3,q4,q5,q6,q7,q8,q9⟩,q10,q11⟩
   dsimp only at q1 q2 q3 q4 q5 q6 q7 q8 q9 q10 q11
   subst q1 q2 q3 q4 q5 q10
   unfold L6
   simp only[Af,Ag,Aa,Aj]
   rw[Al zq0,A9]
   have hnx:IntKind.i64.wrap ((i:Int)+1)=((i+1:Nat):Int):=by rw[w64 zq0];omega
   have hx:=List.getElem?_eq_getElem hi
   rw[Ca hx]
   simp only[Ae]
   have hsp:=h5.2 _ (List.getElem_mem hi)
   have hok:=h5v _ (List.getElem_mem hi)
   generalize r5.1.2.1[i]=x at hsp hok
   refine Am (fun hid=>?_) (fun _=>?_)
   .simp only[decide_eq_true_eq]at hid
    refine Ad (Avu (M:=i) (K:=20000) _ _ q6 hsp zq0 q7 hok) (fun r9 ⟨g1,g2,g3,g4⟩=>?_)
    refine Ah ⟨_,rfl,hnx,rfl,⟨rfl,rfl,rfl,g1,g2,g3 q8,fun y hy=>?_⟩,rfl,q11⟩
    rcases g4 y hy with g|g
    .exact q9 y g
    .rw[g];exact hid
   .exact Ah ⟨_,rfl,hnx,rfl,⟨rfl,rfl,rfl,q6.le zq0 (Nat.le_refl _),q7,q8,q9⟩,rfl,q11⟩
  .rintro⟨k,c1,c2,c3,z0,z1,z2,z3,z4,z5,z6,s0,s1,s2,s3,s4,s5,s6,tc,tl,⟨⟩⟩ ⟨q1,q2,⟨q3,q4,q5,q6,q7,q8,q9⟩,q10,q11⟩
   dsimp only at q1 q2 q3 q4 q5 q6 q7 q8 q9 q10 q11
   subst q1 q2
   unfold L6
   simp only[Af,Ag,Aa,Aj]
   rw[Bq zq0,An]
   exact Ah ⟨_,rfl,⟨q3,q4,q5,q8,q9⟩,q10,q11⟩
 .refine Ad (Bgn ((6:Int),()) o6 zq7) (fun r11 ⟨h11,h11c⟩=>?_)
  refine Ad (Bf _ (Ab o6 h11c) zq7) (fun r12 ⟨h12,h12c⟩=>?_)
  have h12b:0<=r12.1.1/\r12.1.1<30:=⟨h12.1,by rcases h12.2 with q|q<;>(try dsimp only at q)<;>omega⟩
  refine Ah ⟨Es.2 ⟨?_,?_,?_,o4,h11,?_,?_⟩,Ab o6 h12c⟩
  .dsimp only;rw[o1];exact a1
  .dsimp only;rw[o2];exact a2
  .dsimp only
   rw[o3]
   unfold Fw at a3 ⊢
   simp only[Bool.and_eq_true,Bj]at a3 ⊢
   rw[w64 zq0]
   exact⟨a3.1,by omega⟩
  .dsimp only;rw[o1];exact a6
  .dsimp only;rw[o1];exact o7
def Aqt (s r:Ak) (os:List Bc) (ns:List Ay):Prop:=Cs r=true/\J6 os/\Id ns/\r.1=s.1/\r.2.2.1=s.2.2.1/\C5 r=false/\r.2.1=s.2.1
theorem Bsd {s:Ak} {X:Ap} {P p':Bm} {n:YI} {a:A7} {d:YBs} {os:List Bc} {ns:List Ay} {b:Bool} {y:Ap} {g:Aq} {zz:Int} {m:Ay} (hs:Cs s=true) (hd:C5 s=false) (hX:Ci X=true) (h1:X.1=1) (h2:X.2.1=(Cm s).2.1) (hP:D4 P=true) (hn:0<=n.1/\n.1<=1000000) (ha:Cn a=true) (hdl:d.1.length<=12)
  (hb:Bb P<=4294967296) (hc:A6 X<=60000000) (hos:J6 os) (hns:Id ns) (hne:ns≠[]) (hAt:(P.1=(Bn s).1/\P.2.1=(Bn s).2.1)\/(P.1=a.1/\P.2.1=a.2.1)) (hcd:P.2.2.1=[]\/(Bn s).2.2.1.length>0)
  (o:Di P n a d=some (p',(b,()))) (e:Co X ((5:Int),()) d=some (y,g,(zz,()))):
  (b=false->Aqt s (Jh s X P n.1) os ns)/\(zz≠0->Aqt s (Jh s X P n.1) os ns)/\
  (b=true->zz=0->Aqt s (Jh s y p' n.1) (os++[(a.1,a.2.1,g.1,g.2.1,g.2.2.1,g.2.2.2.1,g.2.2.2.2.1,g.2.2.2.2.2.1,g.2.2.2.2.2.2.1,g.2.2.2.2.2.2.2.1,g.2.2.2.2.2.2.2.2.1,g.2.2.2.2.2.2.2.2.2.1,g.2.2.2.2.2.2.2.2.2.2.1,())]) (ns++[Gu y g])):=by
 obtain⟨d,⟨⟩⟩:=d
 dsimp only at hdl
 obtain⟨O1,O2⟩:=Bm6 hb o
 obtain⟨y',g',zz',e1,_,e',E1,E2,E3,E4,E5⟩:=Gq X 5 d zq0
 have ee:=e
 rw[show Co X ((5:Int),()) (d,())=_ from e1]at ee
 simp only[Option.some.injEq,Prod.mk.injEq,and_true]at ee
 obtain⟨rfl,rfl,rfl⟩:=ee
 have h0:=Bhv hs hd hX h1 h2 hP hn
 have base:Aqt s (Jh s X P n.1) os ns:=⟨h0,hos,hns,rfl,rfl,hd,rfl⟩
 refine⟨fun _=>base,fun _=>base,fun hb1 hz=>?_⟩
 .obtain⟨a1,a2,a3,a4,a5,l,u,a6,a7⟩:=O2 hb1
  obtain⟨_,c2,c3,c4,c5,c6⟩:=E5 hz
  have hg1:g'.1=5:=by rw[c5];unfold Gn;rw[c6];rfl
  have hgo:B6 g'=true:=by rw[c5];exact Aal c6
  have hy1:y'.1=1:=by rw[E1];exact h1
  have hy2:y'.2.1=(Cm s).2.1:=by rw[E1];exact h2
  refine⟨Bhv hs hd c2 hy1 hy2 a2 hn,A39 hos (fun x hx=>?_),Ks hns (Ev (Aqr c2)),rfl,rfl,hd,rfl⟩
  rw[List.mem_singleton.1 hx]
  exact⟨hgo,a1⟩
theorem A4b {s r:Ak} {X:Ap} {P p':Bm} {n:YI} {a:A7} {d:YBs} {os os2:List Bc} {ns ns2:List Ay} {b k c1 c2:Bool} {y:Ap} {g:Aq} {zz:Int} (hs:Cs s=true) (hd:C5 s=false) (hX:Ci X=true) (h1:X.1=1) (h2:X.2.1=(Cm s).2.1) (hP:D4 P=true) (hn:0<=n.1/\n.1<=1000000) (ha:Cn a=true) (hdl:d.1.length<=12)
  (hb:Bb P<=4294967296) (hc:A6 X<=60000000) (hos:J6 os) (hns:Id ns) (hne:ns≠[]) (hAt:(P.1=(Bn s).1/\P.2.1=(Bn s).2.1)\/(P.1=a.1/\P.2.1=a.2.1)) (hcd:P.2.2.1=[]\/(Bn s).2.2.1.length>0)
  (o:Di P n a d=some (p',(b,()))) (e:Co X ((5:Int),()) d=some (y,g,(zz,())))
  (h:br (!b) (some (Jh s X P n.1,(os,()),(ns,()),(false,()))) (br (zz != (0:Int)) (some (Jh s X P n.1,(os,()),(ns,()),(false,()))) (chk c1 (chk c2 (some (Jh s y p' n.1,(os++[(a.1,a.2.1,g.1,g.2.1,g.2.2.1,g.2.2.2.1,g.2.2.2.2.1,g.2.2.2.2.2.1,g.2.2.2.2.2.2.1,g.2.2.2.2.2.2.2.1,g.2.2.2.2.2.2.2.2.1,g.2.2.2.2.2.2.2.2.2.1,g.2.2.2.2.2.2.2.2.2.2.1,())],()),(ns++[Gu y g],()),(true,()))))))=some (r,(os2,()),(ns2,()),(k,()))):Aqt s r os2 ns2:=by
 obtain⟨T1,T2,T3⟩:=Bsd hs hd hX h1 h2 hP hn ha hdl hb hc hos hns hne hAt hcd o e (m:=Gu y g)
 rcases Fx h with⟨q,h⟩|⟨q,h⟩
 .have q:b=false:=by simpa using q
  simp only[Option.some.injEq,Prod.mk.injEq,and_true]at h
  obtain⟨rfl,rfl,rfl,rfl⟩:=h
  exact T1 q
 have q:b=true:=by simpa using q
 rcases Fx h with⟨q2,h⟩|⟨q2,h⟩
 .simp only[Option.some.injEq,Prod.mk.injEq,and_true]at h
  obtain⟨rfl,rfl,rfl,rfl⟩:=h
  exact T2 (by simpa using q2)
 .have h:=Gv (Gv h)
  simp only[Option.some.injEq,Prod.mk.injEq,and_true]at h
  obtain⟨rfl,rfl,rfl,rfl⟩:=h
  exact T3 q (by simpa using q2)
theorem Btb (s:Ak) (h:A0 s<=8388608) (ho:Cs s=true) (hd:C5 s=false) {r:Ak} {os:List Bc} {ns:List Ay} (e:Nd s=some (r,(os,()),(ns,()))):(r=s/\os=[]/\ns=[])\/Aqt s r os ns:=by
 have hch:=Abs s
 have hck:=Eo (Cm s)
 obtain⟨q1,q2,q3,q4,q5,q6,q7,q8,q9⟩:=Tq ho hd
 have none: ∀ {r':Ak} {os':List Bc} {ns':List Ay},some (s,(([]:List Bc),()),(([]:List Ay),()))=some (r',(os',()),(ns',()))->(r'=s/\os'=[]/\ns'=[]):=fun h=>by
  simp only[Option.some.injEq,Prod.mk.injEq,and_true]at h
  exact⟨h.1.symm,h.2.1.symm,h.2.2.symm⟩
 obtain⟨c',f,z,k1,_,K1,K2,K3⟩:=A32 (Cm s) zq0
 have hyk:=Eo c'
 unfold Nd Abm at e
 simp only[Af,Ag,Aa,Aj]at e
 rw[Mu s zq0,R7 s zq0]at e
 have hd':s.2.2.2.2.2.2.2.2.2.2.2.2.2.2.2.2.2.2.2.2.2.2.2.1=false:=hd
 simp only[Ae,ho,Bool.not_true,An]at e
 rw[C6 hd']at e
 rcases Fx e with⟨_,e⟩|⟨_,e⟩
 .exact .inl (none e)
 rw[show Ael _=some (c',f,(z,()))from k1]at e
 simp only[Ae]at e
 rcases Fx e with⟨_,e⟩|⟨hz,e⟩
 .exact .inl (none e)
 have hz:z=0:=by simpa using hz
 obtain⟨F1,F2,F3,F4,F5,F6,F7,F8⟩:=Bm8 (K3 hz)
 rw[H9 c' f zq0 zq0]at e
 simp only[Ae,Option.some.injEq,Prod.mk.injEq,and_true]at e
 obtain⟨rfl,rfl,rfl⟩:=e
 have hpa:Cn ((Bn s).1,(Bn s).2.1,())=true:=by
  unfold D4 at q8
  simp only[Bool.and_eq_true]at q8
  exact q8.1
 have hX2:c'.2.1=(Cm s).2.1:=by
  obtain⟨e',E1,_⟩:=K3 hz
  rw[E1];rfl
 have hT:=Bo5 (p:=Bn s) ho hd F1 F2 hX2 q8
 have ho1:J6 [((Bn s).1,(Bn s).2.1,f.1,f.2.1,f.2.2.1,f.2.2.2.1,f.2.2.2.2.1,f.2.2.2.2.2.1,f.2.2.2.2.2.2.1,f.2.2.2.2.2.2.2.1,f.2.2.2.2.2.2.2.2.1,f.2.2.2.2.2.2.2.2.2.1,f.2.2.2.2.2.2.2.2.2.2.1,())]:=fun o hm=>by
  rw[List.mem_singleton.1 hm]
  exact⟨F4,hpa⟩
 have hn1:=Ev F5
 clear K1 K2 K3 k1 F1 F2 F3 F4 F5 F6 F7 F8
 exact .inr ⟨hT,ho1,hn1,rfl,rfl,hd,rfl⟩
theorem Bse (s:Ak) (n:YI) (a:A7) (f:Aq) (d:YBs) (h:A0 s<=8388608) (h2:Ar f<=8388608) (w1:wfB f.2.2.2.1) (w2:wfB (Cm s).2.1) (ho:Cs s=true) (hd:C5 s=false) (hdl:d.1.length<=12)
  {r:Ak} {os:List Bc} {ns:List Ay} {k:Bool} (e:Lk s n a f d=some (r,(os,()),(ns,()),(k,()))):(ns=[]/\r=s/\os=[]/\k=false)\/Aqt s r os ns:=by
 have hch:=Abs s
 have hpa:=Avg s
 have hck:=Eo (Cm s)
 have hsl:s.2.2.1.length<=A0 s:=by simp only[A0];omega
 have htl:=Uy 0 f
 obtain⟨q1,q2,q3,q4,q5,q6,q7,q8,q9⟩:=Tq ho hd
 obtain⟨ch,p,z,o1,_,O1,O2,O3,O4⟩:=Ay1 (Cm s) n f zq0 zq0 w1 w2
 obtain⟨ky,kb,y1,_,y3,y4⟩:=A8m (Cm s) (f.2.2.2.2.2.2.2.1,()) zq0
 have hchk:=Eo ch
 have none: ∀ {r':Ak} {os':List Bc} {ns':List Ay} {k':Bool},some (s,(([]:List Bc),()),(([]:List Ay),()),(false,()))=some (r',(os',()),(ns',()),(k',()))->(ns'=[]/\r'=s/\os'=[]/\k'=false):=fun h=>by
  simp only[Option.some.injEq,Prod.mk.injEq,and_true]at h
  exact⟨h.2.2.1.symm,h.1.symm,h.2.1.symm,h.2.2.2.symm⟩
 unfold Lk Xb at e
 simp only[Af,Ag,Aa,Aj]at e
 rw[Mu s zq0,R7 s zq0,Iq]at e
 have hd':s.2.2.2.2.2.2.2.2.2.2.2.2.2.2.2.2.2.2.2.2.2.2.2.1=false:=hd
 simp only[Ae,ho,Bool.not_true,An]at e
 rw[C6 hd']at e
 cases ha:Cn a with
 |false=>rw[ha]at e;exact .inl (none e)
 |true=>
 rw[ha]at e
 simp only[Bool.not_true,An]at e
 rw[show N9 (Cm s) n f=some (ch,(p,()),(z,()))from o1,show Xp (Cm s) (f.2.2.2.2.2.2.2.1,())=some ((ky,()),(kb,()))from y1,Tm _ _ zq0]at e
 simp only[Ae]at e
 by_cases hz:z=0
 case neg=>
  rw[Ei (by simpa using hz)]at e
  exact .inl (none e)
 case pos=>
 subst hz
 rw[C6 (by rfl),A35 _ _ _ zq0 zq0 zq0]at e
 simp only[Ae]at e
 obtain⟨P1,P2,hn,P4,P5,P6,P7,P8,P9,P10,_⟩:=O4 rfl
 obtain⟨b1,b2,b3,b4,b5⟩:=Aef P4 P5
 have hX1:ch.1=1:=by rw[P7];exact q6
 have hX2:ch.2.1=(Cm s).2.1:=P8
 have tk:Ln (Hm ky s.2.2.1 (Dy 0 f))=true:=A02 y4 (.inr q3) zq0
 have hos0:J6 []:=fun _ h=>by cases h
 have hAt0:((Bn s).1=(Bn s).1/\(Bn s).2.1=(Bn s).2.1)\/((Bn s).1=a.1/\(Bn s).2.1=a.2.1):=.inl ⟨rfl,rfl⟩
 have hcd0:(Bn s).2.2.1=[]\/(Bn s).2.2.1.length>0:=by
  cases (Bn s).2.2.1 with
  |nil=>exact .inl rfl
  |cons _ _=>exact .inr zq3
 have run: ∀(X:Ap) (P:Bm),Bb P<=4294967296->A6 X<=60000000-> ∃p' b y g zz,Di P n a d=some (p',(b,()))/\Co X ((5:Int),()) d=some (y,g,(zz,()))/\H6 y g=some (Gu y g):=fun X P h1 h2=>by
  obtain⟨p',b,of1,_⟩:=Iu P n a d h1
  obtain⟨y,g,zz,g1,_,e',GS1,GS2,GS3,_⟩:=Gq X 5 d.1 zq0
  have hyk:=Eo y
  exact⟨p',b,y,g,zz,of1,g1,H9 y g zq0 zq0⟩
 rcases Fx e with⟨_,e⟩|⟨_,e⟩
 .
  rw[Cg _ zq2]at e
  simp only[Ae]at e
  have e:=Gv e
  obtain⟨p',b,y,g,zz,of1,g1,m1⟩:=run ch (Bn s) zq0 zq0
  rw[show Di (Bn s) n a d=some (p',(b,()))from of1,show Co ch ((5:Int),()) d=some (y,g,(zz,()))from g1]at e
  simp only[Ae]at e
  rw[m1]at e
  simp only[Ae]at e
  have got:Ln ((6:Int),(0:Int),(0:Int),([]:List YB),s.2.2.1,f.2.2.2.2.2.2.2.1,f.2.2.2.2.2.2.2.2.1,p,([]:List YB),(0:Int),(0:Int),n.1,())=true:=by
   rw[Mw]
   simp only[List.length_nil]
   exact⟨by omega,by omega,by omega,b2,b3,hn,.inl trivial,.inr q3,by omega,.inl trivial,A36⟩
  exact .inr (A4b ho hd P2 hX1 hX2 q8 hn ha hdl zq0 zq0 hos0 (Ks (Ev tk) (Ev got)) zq3 hAt0 hcd0 of1 g1 e)
 rcases Fx e with⟨_,e⟩|⟨_,e⟩
 .
  obtain⟨pa,ab,an1,_,_,_⟩:=Avo (Bn s) n a (p,()) zq0
  obtain⟨A1,A2,A3⟩:=Bkb zq0 an1
  rw[show Pb (Bn s) n a (p,())=some (pa,(ab,()))from an1]at e
  simp only[Ae]at e
  rcases Fx e with⟨c,e⟩|⟨_,e⟩
  .obtain⟨B1,B2,B3,B4⟩:=A2 c
   rw[Cg _ zq2]at e
   simp only[Ae]at e
   have e:=Gv e
   obtain⟨p',b,y,g,zz,of1,g1,m1⟩:=run ch pa zq0 zq0
   rw[show Di pa n a d=some (p',(b,()))from of1,show Co ch ((5:Int),()) d=some (y,g,(zz,()))from g1]at e
   simp only[Ae]at e
   rw[m1]at e
   simp only[Ae]at e
   have mv:Ln ((9:Int),(0:Int),(0:Int),([]:List YB),s.2.2.1,(0:Int),(0:Int),p,([]:List YB),a.1,a.2.1,n.1,())=true:=by
    rw[Mw]
    simp only[List.length_nil]
    exact⟨by omega,by omega,by omega,by omega,by omega,hn,.inl trivial,.inr q3,by omega,.inl trivial,ha⟩
   exact .inr (A4b ho hd P2 hX1 hX2 B1 hn ha hdl zq0 zq0 hos0 (Ks (Ev tk) (Ev mv)) zq3 (.inr ⟨B2,B3⟩) (.inr B4) of1 g1 e)
  .obtain⟨p',b,y,g,zz,of1,g1,m1⟩:=run ch (Bn s) zq0 zq0
   rw[show Di (Bn s) n a d=some (p',(b,()))from of1,show Co ch ((5:Int),()) d=some (y,g,(zz,()))from g1]at e
   simp only[Ae]at e
   rw[m1]at e
   simp only[Ae]at e
   exact .inr (A4b ho hd P2 hX1 hX2 q8 hn ha hdl zq0 zq0 hos0 (Ev tk) zq3 hAt0 hcd0 of1 g1 e)
 rcases Fx e with⟨_,e⟩|⟨_,e⟩
 .
  obtain⟨⟨r1,⟨os1,⟨⟩⟩,ns1,⟨⟩⟩,k1,e⟩:=Amq e
  obtain⟨X,hr1,X1,X2,X3,X4,X5,X6⟩:=Bm7 (X0:=ch) (P:=Bn s) (n:=n.1) rfl ho hd P2 hX1 hX2 q8 zq0 k1
  subst hr1
  have e:=Gv (Gv e)
  obtain⟨p',b,y,g,zz,of1,g1,m1⟩:=run X (Bn s) zq0 zq0
  rw[show Di (Bn (Jh s X (Bn s) n.1)) n a d=some (p',(b,()))from of1,show Co (Cm (Jh s X (Bn s) n.1)) ((5:Int),()) d=some (y,g,(zz,()))from g1]at e
  simp only[Ae]at e
  rw[m1]at e
  simp only[Ae]at e
  exact .inr (A4b ho hd X1 X2 X3 q8 hn ha hdl zq0 zq0 (A39 hos0 X5) (Ks (Ev tk) X6) zq3 hAt0 hcd0 of1 g1 e)
 .obtain⟨p',b,y,g,zz,of1,g1,m1⟩:=run ch (Bn s) zq0 zq0
  rw[show Di (Bn s) n a d=some (p',(b,()))from of1,show Co ch ((5:Int),()) d=some (y,g,(zz,()))from g1]at e
  simp only[Ae]at e
  rw[m1]at e
  simp only[Ae]at e
  exact .inr (A4b ho hd P2 hX1 hX2 q8 hn ha hdl zq0 zq0 hos0 (Ev tk) zq3 hAt0 hcd0 of1 g1 e)
theorem Bng {k n:Int} (h:Jb k n=true):n<=40:=by
 unfold Jb at h
 cases k1:k==4<;>rw[k1]at h<;>simp only[cond_true,cond_false,decide_eq_true_eq]at h
 .cases k2:k==5<;>rw[k2]at h<;>simp only[cond_true,cond_false,beq_iff_eq]at h
  .cases k3:k==6<;>rw[k3]at h<;>simp only[cond_true,cond_false,beq_iff_eq]at h<;>omega
  .omega
 .exact h
theorem X7 {f:Aq} (h:B6 f=true):Ar f<=200:=by
 unfold B6 at h
 simp only[Ar]
 cases hs:inR f.1 4 8 with
 |true=>
  rw[hs]at h
  simp only[cond_true,Bool.and_eq_true,beq_iff_eq,Bj]at h
  obtain⟨h1,h2,h3,h4,h5,h6,h7,h8,h9,h10⟩:=h
  have h9':=Bng h9
  omega
 |false=>
  rw[hs]at h
  simp only[cond_false,Bool.and_eq_true,beq_iff_eq]at h
  obtain⟨h1,h2,h3,h4,h5,h⟩:=h
  cases k1:f.1==1 with
  |true=>
   rw[k1]at h
   simp only[cond_true,Bool.and_eq_true,beq_iff_eq,Bj]at h
   omega
  |false=>
   rw[k1]at h
   simp only[cond_false]at h
   cases k2:f.1==2 with
   |true=>
    rw[k2]at h
    simp only[cond_true,Bool.and_eq_true,beq_iff_eq,Bj]at h
    omega
   |false=>
    rw[k2]at h
    simp only[cond_false,Bool.and_eq_true,beq_iff_eq,Bj]at h
    omega
theorem Bhw (b:List YB) (n:Int) (hn:0<=n) (hl:b.length<=4294967296):Dt (b,()) (n,())=some ((b.take n.toNat,()),(b.drop n.toNat,())):=by
 unfold Dt At1
 simp only[Af,Ag,Aa,Aj]
 by_cases h:(b.length:Int)<n
 .rw[if_pos h,Al zq0,Al zq0,Ba,Ba,Cg _ zq1]
  simp only[Ae,Ba,Int.toNat_natCast,List.take_length,Int.toNat_zero,List.drop_zero,List.drop_length]
  rw[List.take_of_length_le zq0,List.drop_eq_nil_of_le zq0]
 .rw[if_neg h,Al zq0,Al zq0,Al zq0,Ba,Ba,Cg _ zq1]
  simp only[Ae,Ba,Int.toNat_natCast,List.take_length,Int.toNat_zero,List.drop_zero]
theorem Bo9 (b:List YB) (n:Int) (hn:0<=n) (hl:b.length<=4294967296):Gd (b,()) (n,())=some ((A59 (b.take n.toNat) 0 n).1,(b.drop n.toNat,())):=by
 unfold Gd Aou
 simp only[Af,Ag,Aa,Aj]
 rw[Bhw b n hn hl]
 simp only[Ae]
 rw[Bl4 _ _ _ zq1]
 simp only[Ae]
def WL (b:YBs):Prop:=wfB b.1/\b.1.length<=4294967296
theorem Bnh (b:YBs) (n:YI) (hn:0<=n.1) (h:WL b):Tot (fun r=>wfB r.1.1/\WL r.2) (Dt b n):=by
 rw[show Dt b n=_ from Bhw b.1 n.1 hn h.2]
 exact Ah ⟨Bo0 h.1,Bdc h.1,by have:=h.2;simp;omega⟩
theorem Bkg (b:YBs) (n:YI) (hn:0<=n.1) (h:WL b):Tot (fun r=>True/\WL r.2) (Gd b n):=by
 rw[show Gd b n=_ from Bo9 b.1 n.1 hn h.2]
 exact Ah ⟨trivial,Bdc h.1,by have:=h.2;simp;omega⟩
def GFP (b:YBs) (r:Aq×(Bool×Unit)):Prop:=r.2.1=true->B6 r.1=true/\wfB r.1.2.2.2.1/\wfB r.1.2.2.1/\Dx (Nh r.1) b.1=true
theorem Bq5 (b:YBs) (F X:Aq) (h1:wfB F.2.2.2.1) (h2:wfB F.2.2.1):Tot (GFP b) (ob (Dh F) fun r=>br (!r.1) (some (X,(false,()))) (ob (Ek F) fun r5=>ob (Cf r5 b) fun r6=>br (!r6.1) (some (X,(false,()))) (some (F,(true,()))))):=by
 rw[Ms,Ae]
 refine Am (fun _=>Ah (fun h=>by cases h)) (fun hf=>?_)
 have hf:B6 F=true:=by simpa using hf
 have hn:=X7 hf
 rw[A3u F zq0,Ae,I3,Ae]
 refine Am (fun _=>Ah (fun h=>by cases h)) (fun he=>?_)
 exact Ah (fun _=>⟨hf,h1,h2,by simpa using he⟩)
theorem Bgr (b:YBs) (h:WL b):Tot (GFP b) (N6 b):=by
 unfold N6 Afu
 simp only[Af,Ag,Aa,Aj]
 have w0:=Gs
 repeat' first
  |exact Bq5 _ _ _ Ng Ng
  |refine Ad (Bnh _ _ zq7 Ng) (fun r ⟨_,_⟩=>?_)
  |refine Ad (Bkg _ _ zq7 Ng) (fun r ⟨_,_⟩=>?_)
  |refine Am (fun _=>?_) (fun _=>?_)
  |rw[Aaf,Ae]
end
end Go.Proofs.YtnbbbaplphcebaaGreat

/-
  That the program and the reference answer alike, in plain terms, and that the laws answer true.
-/
import Derived.Test.YtnbbbaplphcebaaGreatG5
namespace Go.Proofs.YtnbbbaplphcebaaGreat
open Go.RowKit
set_option linter.unusedVariables false
set_option linter.unusedSimpArgs false
set_option maxRecDepth 100000
set_option maxHeartbeats 8000000
noncomputable section
def Bkh (l:List Ao) (a:A7):Int:=
 if Ck l=true then(if C7 l a<0 then 0 else match l[(C7 l a).toNat]? with|some x=>3*x.2.2.1-x.2.2.2.1|none=>0)else 0
theorem Bq6 (l:List Ao) (a:A7) (h:l.length<=1000):Kq (l,()) a=some (Bkh l a,()):=by
 unfold Kq Abg Bkh
 simp only[Af,Ag,Aa]
 rw[Xt l a zq0,Ae,Uv l zq0,Ae]
 cases e1:Ck l with
 |false=>rfl
 |true=>
  simp only[Bool.not_true,An]
  by_cases hneg:C7 l a<0
  .rw[Al hneg,if_pos hneg];rfl
  .obtain⟨x,hx,hi⟩:=Aes (l:=l) (a:=a) zq0
   obtain⟨_,q2,_⟩:=Du.1 e1
   obtain⟨_,g2,g3⟩:=q2 x (List.mem_of_getElem? hx)
   rw[Bq hneg,An,hi,if_neg hneg,hx]
   simp only[Ae]
   rw[w64 (n:=3*x.2.2.1) zq0,w64 zq0]
   rfl
theorem Bq7 (l:List Ao) (a:A7) (n:YI) (h:l.length<=1000):A0n (l,()) a n=some (Vi l a n.1,()):=by
 unfold A0n Az0 Vi
 simp only[Af,Ag,Aa,Aj]
 rw[Ade l zq0,Ae,Uv l zq0,Ae,Iq,Ae,Cj,Ae,Xt l a zq0,Ae]
 by_cases hc:Ck l=true/\Cn a=true/\inR n.1 0 1000000=true
 .obtain⟨c1,c2,c3⟩:=hc
  have c4:=Bj.1 c3
  rw[if_pos ⟨c1,c2,c3⟩,c1,c2,c3]
  simp only[Bool.not_true,An]
  by_cases hneg:C7 l a<0
  .rw[if_pos hneg,Bq zq0,An]
   have h8':=(Du.1 c1).1
   by_cases h8:l.length=8
   .rw[if_pos h8,Bq zq0];rfl
   .rw[if_neg h8,Al zq0,A9,Al zq1,Ba]
  .obtain⟨x,hx,hi⟩:=Aes (l:=l) (a:=a) zq0
   obtain⟨_,q2,_⟩:=Du.1 c1
   obtain⟨_,g2,_⟩:=q2 x (List.mem_of_getElem? hx)
   rw[if_neg hneg,Al zq0,A9,hi,hx]
   simp only[Ae]
   rw[w64 zq0]
 .rw[if_neg hc]
  cases e1:Ck l with
  |false=>rfl
  |true=>
   cases e2:Cn a with
   |false=>rfl
   |true=>
    cases e3:inR n.1 0 1000000 with
    |false=>rfl
    |true=>exact(hc ⟨e1,e2,e3⟩).elim
theorem Bpa (l:List Ao) (a:A7) (n:YI) (h:l.length<=1000):Ail (l,()) a n=some (match Sd l a n.1 with|some r=>((r,()),(true,()))|none=>((l,()),(false,()))):=by
 unfold Ail Auk
 simp only[Af,Ag,Aa,Aj]
 rw[Ade l zq0,Ae,Xt l a zq0,Ae,Uv l zq0,Ae,Bq6 l a h,Ae,Cj,Ae]
 unfold Sd Bkh
 cases e1:Ck l with
 |false=>rw[if_neg zq3];rfl
 |true=>
  simp only[Bool.not_true,An]
  by_cases hneg:C7 l a<0
  .rw[Al hneg,A9,if_neg zq0]
  .obtain⟨x,hx,hi⟩:=Aes (l:=l) (a:=a) zq0
   obtain⟨_,q2,_⟩:=Du.1 e1
   obtain⟨_,g2,g3⟩:=q2 x (List.mem_of_getElem? hx)
   simp only[true_and,if_true]
   rw[Bq hneg,An,if_neg hneg,if_pos (show 0<=C7 l a by omega),hx,hi]
   simp only[Ae]
   cases hn:inR n.1 0 (3*x.2.2.1-x.2.2.2.1)with
   |false=>rfl
   |true=>
    have:=Bj.1 hn
    rw[w64 zq0]
    rfl
theorem Bpb (f:Aq) (h:Ar f<=536870912):Ap6 f=some (((Nh f).length:Int),()):=by
 unfold Ap6 Apk
 simp only[Ag,Aa]
 rw[A3u f h];rfl
def X8 (a:A7) (id:Int) (cn sn:List YB) (t:Int):List YB:=cat [(([((99:Int),())]++Fh a.1 4 4)++Fh a.2.1 2 2,()),([(IntKind.u8.wrap id,())],()),(cn,()),(sn,()),(([]:List YB)++Fh t 4 4,())]
theorem Tr {a:A7} {id:Int} {cn sn:List YB} {t:Int} (h1:cn.length=12) (h2:sn.length=12):(X8 a id cn sn t).length=36:=by
 unfold X8
 simp[cat,Gb,h1,h2]
theorem A06 (a:A7) (id:Int) (cn sn:List YB) (t:Int) (ha:Cn a=true) (hi:inR id 1 9=true) (h1:cn.length=12) (h2:sn.length=12) (ht:inR t 0 1000000=true):Ru a (id,()) (cn,()) (sn,()) (t,())=some (X8 a id cn sn t,()):=by
 unfold Ru Afz Ays Aj3
 simp only[Af,Ag,Aa,Aj,Iq,Cj,Hr,Ae,ha,h1,h2,hi,ht,Bool.not_true,An]
 rw[show((((12:Nat):Int))==(12:Int))=true by decide]
 simp only[Bool.not_true,An]
 rw[Oa _ _ zq3]
 simp only[Ae]
 rw[Bq2 _ _ (by simp[Gb])]
 simp only[Ae]
 rw[Oa _ _ zq3]
 simp only[Ae]
 rw[Hn _ (by have:=Tr (a:=a) (id:=id) (t:=t) h1 h2;unfold X8 at this;omega) zq3]
 rfl
theorem Bdq (a:A7) (id:Int) (cn sn:List YB) (t:Int) (ha:Cn a=true) (hi:inR id 1 9=true) (h1:cn.length=12) (h2:sn.length=12) (ht:inR t 0 1000000=true):N4 a (id,()) (cn,()) (sn,()) (t,())=some (X8 a id cn sn t,()):=by
 unfold N4 Wv Ayq Ajs
 simp only[Af,Ag,Aa,Aj,Ir,Cq,Ae,ha,h1,h2,hi,ht,Bool.not_true,An]
 rw[show((((12:Nat):Int)) != (12:Int))=false by decide]
 simp only[Bool.not_true,An]
 rw[K8 _ _ zq3]
 simp only[Ae]
 rw[Bq3 _ _ (by simp[Gb])]
 simp only[Ae]
 rw[Al (by simp[Gb]),Ba,Al (by simp[Gb,h1]),Ba,Al (by simp[Gb,h1,h2]),Ba,K8 _ _ (by simp[Gb,h1,h2])]
 simp only[Ae]
 unfold X8
 simp[cat]
def Avv (j:List YB) (a:A7) (id:Int) (cn sn:List YB) (t:Int):List YB:=T4 j (X8 a id cn sn t)
theorem A4c {j:List YB} {a:A7} {id:Int} {cn sn:List YB} {t:Int} (hj:j.length=32) (h1:cn.length=12) (h2:sn.length=12):(Avv j a id cn sn t).length=16:=by
 have hb:=Tr (a:=a) (id:=id) (t:=t) h1 h2
 have h:=Ob j (X8 a id cn sn t) zq0 zq0
 unfold Avv T4
 rw[List.length_take];omega
theorem Bdr (j:List YB) (a:A7) (id:Int) (cn sn:List YB) (t:Int) (hj:j.length=32) (ha:Cn a=true) (hi:inR id 1 9=true) (h1:cn.length=12) (h2:sn.length=12) (ht:inR t 0 1000000=true):Apy (j,()) a (id,()) (cn,()) (sn,()) (t,())=some (Avv j a id cn sn t,()):=by
 have hb:=Tr (a:=a) (id:=id) (t:=t) h1 h2
 unfold Apy A0a
 simp only[Af,Ag,Aa,Aj]
 rw[A06 a id cn sn t ha hi h1 h2 ht,Ae,A6a,Ae]
 simp only[hj,hb]
 rw[show((((32:Nat):Int))==(32:Int))=true by decide,show((((36:Nat):Int))==(0:Int))=false by decide]
 simp only[Bool.not_true,An]
 rw[Bap,Ae];rfl
theorem Bpc (j:List YB) (a:A7) (id:Int) (cn sn:List YB) (t:Int) (hj:j.length=32) (ha:Cn a=true) (hi:inR id 1 9=true) (h1:cn.length=12) (h2:sn.length=12) (ht:inR t 0 1000000=true):Zy (j,()) a (id,()) (cn,()) (sn,()) (t,())=some (Avv j a id cn sn t,()):=by
 have hb:=Tr (a:=a) (id:=id) (t:=t) h1 h2
 unfold Zy An2
 simp only[Af,Ag,Aa,Aj]
 rw[Bdq a id cn sn t ha hi h1 h2 ht,Ae,Awp,Ae]
 simp only[hj,hb]
 rw[show((((32:Nat):Int))==(32:Int))=true by decide,show((((36:Nat):Int))==(0:Int))=false by decide]
 simp only[Bool.not_true,An]
 rw[Baq,Ae];rfl
def Bds (n t:Int):Bool:=inR n 0 1000000 && (inR t 0 1000000 && inR (IntKind.i64.wrap (n-t)) 0 10)
theorem Bq8 (n t:YI):Auw n t=some (Bds n.1 t.1,()):=by
 unfold Auw At8 Bds
 simp only[Af,Ag,Aa,Cj,Ae]
 cases inR n.1 0 1000000<;>cases inR t.1 0 1000000<;>rfl
theorem Aiu {f:Aq} (h:B6 f=true) (hk:f.1=3):inR f.2.1 1 9=true/\f.2.2.1.length=12/\f.2.2.2.1.length=12/\inR f.2.2.2.2.1 0 1000000=true/\f.2.2.2.2.2.1.length=16/\f.2.2.2.2.2.2.1.length=16:=by
 unfold B6 at h
 simp only[hk,show inR (3:Int) 4 8=false by decide,show((3:Int)==1)=false by decide,show((3:Int)==2)=false by decide,cond_false,Bool.and_eq_true,beq_iff_eq]at h
 obtain⟨h1,h2,h3,h4,h5,h6,h7,h8,h9,h10,h11⟩:=h
 exact⟨h7,by omega,by omega,h9,by omega,by omega⟩
theorem Bki {f:Aq} (h:B6 f=true) (hk:f.1=1):inR f.2.1 1 9=true/\f.2.2.1.length=12:=by
 unfold B6 at h
 simp only[hk,show inR (1:Int) 4 8=false by decide,show((1:Int)==1)=true by decide,cond_false,cond_true,Bool.and_eq_true,beq_iff_eq]at h
 obtain⟨h1,h2,h3,h4,h5,h6,h7⟩:=h
 exact⟨h6,by omega⟩
theorem Bsf (a b:List YB) (h:a.length<=4294967296): ∃r,Qo (a,()) (b,())=some (r,()):=by
 obtain⟨r,r1,_⟩:=A34 a b h
 exact⟨r,r1⟩
theorem Bpd (j:List YB) (n:YI) (a:A7) (f:Aq): ∃k,Aux (j,()) n a f=some (k,())/\(k=0->j.length=32/\inR n.1 0 1000000=true/\Cn a=true/\f.1=3/\B6 f=true):=by
 unfold Aux At9
 simp only[Af,Ag,Aa,Aj,A6a,Cj,Iq,Ms,Bq8,Ae]
 cases e1:((j.length:Int)==32)with
 |false=>exact⟨1,rfl,fun h=>by cases h⟩
 |true=>
 cases e2:inR n.1 0 1000000 with
 |false=>exact⟨1,rfl,fun h=>by cases h⟩
 |true=>
 cases e3:Cn a with
 |false=>exact⟨1,rfl,fun h=>by cases h⟩
 |true=>
 cases e4:(f.1 != (3:Int))with
 |true=>exact⟨1,rfl,fun h=>by cases h⟩
 |false=>
 cases e5:B6 f with
 |false=>exact⟨1,rfl,fun h=>by cases h⟩
 |true=>
 cases e6:Bds n.1 f.2.2.2.2.1 with
 |false=>exact⟨9,rfl,fun h=>by cases h⟩
 |true=>
 have hj:j.length=32:=by simp only[beq_iff_eq]at e1;omega
 have hk:f.1=3:=by simpa using e4
 obtain⟨c1,c2,c3,c4,c5,c6⟩:=Aiu e5 hk
 rw[Bdr j a f.2.1 f.2.2.1 f.2.2.2.1 f.2.2.2.2.1 hj e3 c1 c2 c3 c4]
 simp only[Bool.not_true,An,Ae]
 obtain⟨r,r1⟩:=Bsf f.2.2.2.2.2.1 (Avv j a f.2.1 f.2.2.1 f.2.2.2.1 f.2.2.2.2.1) zq0
 rw[r1]
 simp only[Ae]
 cases r with
 |false=>exact⟨2,rfl,fun h=>by cases h⟩
 |true=>exact⟨0,rfl,fun _=>⟨hj,trivial,trivial,hk,trivial⟩⟩
theorem Bkj (p:List YB) (f:Aq): ∃k,Akn (p,()) f=some (k,()):=by
 unfold Akn Aj6
 simp only[Af,Ag,Aa,Aj,Ms,Bhs,Ae]
 cases e1:(f.1==(3:Int))with
 |false=>exact⟨false,rfl⟩
 |true=>
 cases e5:B6 f with
 |false=>exact⟨false,rfl⟩
 |true=>
 obtain⟨c1,c2,c3,c4,c5,c6⟩:=Aiu e5 (by simpa using e1)
 obtain⟨r,r1⟩:=Bsf f.2.2.2.2.2.2.1 (Ux p f.2.1 f.2.2.1 f.2.2.2.1 f.2.2.2.2.1 f.2.2.2.2.2.1) zq0
 rw[r1]
 exact⟨r,rfl⟩
theorem A8u {s:Ak} (h:SP 40000 s):s.2.1.length<=40000/\s.2.2.1.length<=40000/\A6 (Cm s)<=40000/\Bb (Bn s)<=40000:=by
 have:=Xz s
 have:=h.1
 exact⟨by omega,by omega,by omega,by omega⟩
theorem Bal {b:List YB} {a0:Aw} (s:Ak) (hc:Bv b a0) (h:SP 40000 s):Tot (fun r=>(Ar r.2.1<=90000/\wfB r.2.1.2.2.2.1)/\Bv b r.2.2) (Agm a0 s):=by
 obtain⟨k1,k2,k3,k4⟩:=A8u h
 have fin: ∀(c:Aw) (F:Aq) (X:A7),Ar F<=90000/\wfB F.2.2.2.1->Bv b c->c.1=a0.1->
   Tot (fun r:A7×Aq×Aw=>(Ar r.2.1<=90000/\wfB r.2.1.2.2.2.1)/\Bv b r.2.2) (ob (Av c ((12:Int),())) fun r=>br r.1.1 (ob (Gj (a0.1,r.2.2.1,r.2.2.2.1,())) fun q=>some (q.1,F,(a0.1,q.2.2.1,q.2.2.2.1,()))) (some (X,F,(a0.1,r.2.2.1,r.2.2.2.1,())))):=fun c F X hF hcc e=>by
  refine Ad (Az _ hcc zq7) (fun r hr=>?_)
  refine Am (fun _=>?_) (fun _=>Ah ⟨hF,Ab hc hr⟩)
  exact Ad (Bm1 (Ab hc hr)) (fun q hq=>Ah ⟨hF,Ab hc hq⟩)
 have sli: ∀(k:YBs) (r ep seq kind:YI) (p:YBs),p.1.length<=40000->Tot (fun q=>Ar q.1<=90000/\wfB q.1.2.2.2.1) (Bz k r (s.2.2.1,()) ep seq kind p):=fun k r ep seq kind p hp=>
  (Ct k r (s.2.2.1,()) ep seq kind p zq2 zq0).mono (fun q hq=>⟨Nat.le_trans hq.1 zq2,hq.2 h.2.1⟩)
 have hfr:=fun(c:Aw) (hcc:Bv b c)=>(Bdh (Cm s) hcc zq0 h.2.2).mono (fun r hr=>(⟨⟨Nat.le_trans hr.1.1 zq0,hr.1.2⟩,hr.2⟩:(Ar r.1<=90000/\wfB r.1.2.2.2.1)/\Bv b r.2))
 unfold Agm Afe
 simp only[Af,Ag,Aa,Aj]
 refine Ad (Az _ hc zq7) (fun r1 h1c=>?_)
 refine Am (fun _=>Ad (Bf _ (Ab hc h1c) zq7) (fun r2 ⟨_,h2c⟩=>Ad (Pe _) (fun r3 _=>Ad (hfr _ (Ab hc h2c)) (fun r4 ⟨h4,h4c⟩=>?_)))) (fun _=>Ad (hfr _ (Ab hc h1c)) (fun r4 ⟨h4,h4c⟩=>?_))
 all_goals
  refine Ad (Bf _ (Ab hc h4c) zq7) (fun r5 ⟨_,h5c⟩=>?_)
  refine Am (fun _=>?_) (fun _=>Am (fun _=>Am (fun _=>?_) (fun _=>?_)) (fun _=>fin _ _ _ h4 (Ab hc h5c) rfl))
  .refine Am (fun hb=>?_) (fun _=>fin _ _ _ h4 (Ab hc h5c) rfl)
   have hb:=of_decide_eq_true hb
   have hl:(Bn s).2.2.1.length<=40000:=Nat.le_trans (by simp only[Bb];omega) k4
   refine Ad (Bf _ (Ab hc h5c) (by dsimp only at hl ⊢;omega)) (fun r6 ⟨⟨h6,h6b⟩,h6c⟩=>?_)
   dsimp only at h6b
   refine Ad (Ez (P:=fun e=>e.2.2.1.length<=40000) h6 zq0 (fun x hx=>?_)) (fun e he=>?_)
   .have:=Ag7 (f:=Fy) hx
    have k4':(Bn s).2.2.1.length+Bu Fy (Bn s).2.2.1<=40000:=k4
    simp only[Fy]at this
    dsimp only at k4'
    omega
   .exact Ad (sli _ _ _ _ _ _ he) (fun q hq=>fin _ _ _ hq (Ab hc h6c) rfl)
  .refine Ad (Az _ (Ab hc h5c) zq7) (fun r6 h6c=>?_)
   refine Am (fun _=>?_) (fun _=>?_)
   .exact Ad (Adf _) (fun r7 h7=>Ad (sli _ _ _ _ _ _ zq0) (fun q hq=>fin _ _ _ hq (Ab hc h6c) rfl))
   .exact Ad (Adf _) (fun r7 h7=>Ad (sli _ _ _ _ _ _ zq0) (fun q hq=>fin _ _ _ hq (Ab hc h6c) rfl))
  .exact Ad (Adf _) (fun r7 h7=>Ad (sli _ _ _ _ _ _ zq0) (fun q hq=>fin _ _ _ hq (Ab hc h5c) rfl))
theorem Bam (p:YBs) (id:YI) (f:Aq) (h:Ar f<=200000):Tot (fun r=>Ar r.1<=Ar f+100/\(wfB f.2.2.2.1->wfB r.1.2.2.2.1)) (Hd p id f):=by
 unfold Hd Re
 simp only[Af,Ag,Aa,Aj]
 rw[Jc,Ae]
 refine Am (fun _=>Ah ⟨by simp[Ar],fun _=>Gs⟩) (fun _=>?_)
 refine Am (fun _=>Ah ⟨by simp[Ar],fun _=>Gs⟩) (fun _=>?_)
 have hp:=A8o p.1 id.1 f.2.2.1 f.2.2.2.1 f.2.2.2.2.1 f.2.2.2.2.2.1
 rw[show Ab8 p id (f.2.2.1,()) (f.2.2.2.1,()) (f.2.2.2.2.1,()) (f.2.2.2.2.2.1,())=_ from A6d p.1 id.1 _ _ _ _,Ae]
 refine Am (fun _=>Ah ⟨by simp[Ar],fun _=>Gs⟩) (fun _=>?_)
 rw[Aqn _ zq0,Ae]
 simp only[Ar]at h
 exact Ah ⟨by simp only[Ar,List.length_nil];omega,fun h=>h⟩
theorem Bpe (j:YBs) (a:A7) (id:YI) (cn sn:YBs) (t:YI):Tot (fun r=>r.1.length<=16) (Zy j a id cn sn t):=by
 obtain⟨j,⟨⟩⟩:=j;obtain⟨id,⟨⟩⟩:=id;obtain⟨cn,⟨⟩⟩:=cn;obtain⟨sn,⟨⟩⟩:=sn;obtain⟨t,⟨⟩⟩:=t
 by_cases hg:j.length=32/\Cn a=true/\inR id 1 9=true/\cn.length=12/\sn.length=12/\inR t 0 1000000=true
 .obtain⟨g1,g2,g3,g4,g5,g6⟩:=hg
  rw[Bpc j a id cn sn t g1 g2 g3 g4 g5 g6]
  exact Ah (by dsimp only;rw[A4c g1 g4 g5];exact Nat.le_refl _)
 .unfold Zy An2
  simp only[Af,Ag,Aa,Aj]
  have nil:N4 a (id,()) (cn,()) (sn,()) (t,())=some (([]:List YB),())\/((j.length:Int)==32)=false/\Tot (fun _=>True) (N4 a (id,()) (cn,()) (sn,()) (t,())):=by
   by_cases hb:Cn a=true/\inR id 1 9=true/\cn.length=12/\sn.length=12/\inR t 0 1000000=true
   .obtain⟨g2,g3,g4,g5,g6⟩:=hb
    refine .inr ⟨?_,by rw[Bdq a id cn sn t g2 g3 g4 g5 g6];exact Ah trivial⟩
    cases e:((j.length:Int)==32)with
    |false=>rfl
    |true=>exact(hg ⟨by simp only[beq_iff_eq]at e;omega,g2,g3,g4,g5,g6⟩).elim
   .left
    unfold N4 Wv
    simp only[Af,Ag,Aa,Aj,Ir,Cq,Ae]
    cases e1:Cn a with
    |false=>rfl
    |true=>
    cases e2:inR id 1 9 with
    |false=>rfl
    |true=>
    cases e3:((cn.length:Int) != 12)with
    |true=>rfl
    |false=>
    cases e4:((sn.length:Int) != 12)with
    |true=>rfl
    |false=>
    cases e5:inR t 0 1000000 with
    |false=>rfl
    |true=>
     have e3:(cn.length:Int)=12:=by simpa using e3
     have e4:(sn.length:Int)=12:=by simpa using e4
     exact(hb ⟨e1,e2,by omega,by omega,e5⟩).elim
  rcases nil with n1|⟨n1,r,n2,_⟩
  .rw[n1,Ae,Awp,Ae]
   refine Am (fun _=>Ah zq3) (fun _=>?_)
   exact Ah zq3
  .rw[n2,Ae,Awp,Ae]
   dsimp only
   rw[n1]
   exact Ah zq3
theorem Bdt (f:Aq):(Nh f).length<=300:=by
 unfold Nh
 cases h:B6 f with
 |false=>simp
 |true=>
  have hn:=X7 h
  simp only[Ar]at hn
  simp only[Bool.not_true,cond_false]
  cases f.1==1<;>cases f.1==2<;>cases f.1==3<;>simp only[cond_true,cond_false,List.length_cons,List.length_append,List.length_replicate,Gb]<;>omega
theorem Avw (f:Aq) (h:Ar f<=536870912):Tot (fun r=>r.1.length<=300) (Lh f):=by
 rw[Bjc f h];exact Ah (Bdt f)
theorem w1m {x:Int} (h:0<=x/\x<=1000):IntKind.i64.wrap (IntKind.i64.wrap (1+x)-1)=x:=by
 rw[w64 (n:=1+x) zq0,w64 zq0];omega
theorem w1p {x:Int} (h:0<=x/\x<=1000):IntKind.i64.wrap (1+x)=1+x:=w64 zq0
theorem Bdu {b:List YB} {a0:Aw} (s:Bs) (hc:Bv b a0) (h:SvP s):Tot (fun r=>r.2.2.1.1.length<=1000/\Bv b r.2.2.2) (Agn a0 s):=by
 obtain⟨p1,p2,p3,p4,p5⟩:=h
 have hl:=p4.1
 dsimp only at hl
 have hps:=p1.1
 unfold Agn Aff
 try unfold A0m
 try unfold O8
 simp only[Af,Ag,Aa,Aj]
 have bel: ∀(n:Nat) (x:Int),0<=x->(x<(n:Int)\/x=0)->n<=1000->0<=x/\x<=1000:=fun n x h0 h1 h2=>by omega
 refine Ad (Bf _ hc zq7) (fun r1 ⟨_,h1c⟩=>Ad (Pe _) (fun r2 _=>Ad (Ji _ (Ab hc h1c) zq7) (fun r3 h3c=>Ad (Bf _ (Ab hc h3c) zq7) (fun r4 ⟨_,h4c⟩=>?_))))
 have fin: ∀(c:Aw) (n:YI) (f:YBs),Bv b c->c.1=a0.1->f.1.length<=300->Tot (fun r:YI×A7×YBs×Aw=>r.2.2.1.1.length<=1000/\Bv b r.2.2.2) (ob (Av c ((3:Int),())) fun r33=>br r33.1.1 (ob (I0 (a0.1,r33.2.2.1,r33.2.2.2.1,()) f) fun r34=>ob (B9 (a0.1,r34.2.2.1,r34.2.2.2.1,()) ([((0:Int),()),((0:Int),()),((0:Int),()),((10:Int),()),((11:Int),())],())) fun r35=>some (((IntKind.i64.wrap (n.1+r35.1.1)),()),r2,r34.1,(a0.1,r35.2.2.1,r35.2.2.2.1,()))) (ob (B9 (a0.1,r33.2.2.1,r33.2.2.2.1,()) ([((0:Int),()),((0:Int),()),((0:Int),()),((10:Int),()),((11:Int),())],())) fun r36=>some (((IntKind.i64.wrap (n.1+r36.1.1)),()),r2,f,(a0.1,r36.2.2.1,r36.2.2.2.1,())))):=fun c n f hcc _ hf=>by
  refine Ad (Az _ hcc zq7) (fun r33 h33=>Am (fun _=>?_) (fun _=>?_))
  .refine Ad (Tp _ (Ab hc h33) zq0) (fun r34 ⟨⟨h34,_⟩,h34c⟩=>Ad (Ji _ (Ab hc h34c) zq7) (fun r35 h35=>Ah ⟨by dsimp only;omega,Ab hc h35⟩))
  .exact Ad (Ji _ (Ab hc h33) zq7) (fun r35 h35=>Ah ⟨by dsimp only;omega,Ab hc h35⟩)
 have mk: ∀(e:YBs) (id:YI) (cn sn:List YB) (t:YI) (c:Aw) (n:YI),cn.length<=40000->sn.length<=40000->Bv b c->c.1=a0.1->Tot (fun r:YI×A7×YBs×Aw=>r.2.2.1.1.length<=1000/\Bv b r.2.2.2) (ob (Zy (s.2.1,()) r2 id (cn,()) (sn,()) t) fun r16=>ob (Hd e id ((2:Int),(0:Int),cn,sn,t.1,r16.1,([]:List YB),(0:Int),(0:Int),([]:List YB),([]:List YB),())) fun r17=>ob (Lh r17.1) fun f=>ob (Av c ((3:Int),())) fun r33=>br r33.1.1 (ob (I0 (a0.1,r33.2.2.1,r33.2.2.2.1,()) f) fun r34=>ob (B9 (a0.1,r34.2.2.1,r34.2.2.2.1,()) ([((0:Int),()),((0:Int),()),((0:Int),()),((10:Int),()),((11:Int),())],())) fun r35=>some (((IntKind.i64.wrap (n.1+r35.1.1)),()),r2,r34.1,(a0.1,r35.2.2.1,r35.2.2.2.1,()))) (ob (B9 (a0.1,r33.2.2.1,r33.2.2.2.1,()) ([((0:Int),()),((0:Int),()),((0:Int),()),((10:Int),()),((11:Int),())],())) fun r36=>some (((IntKind.i64.wrap (n.1+r36.1.1)),()),r2,f,(a0.1,r36.2.2.1,r36.2.2.2.1,())))):=fun e id cn sn t c n hcn hsn hcc e1=>by
  refine Ad (Bpe _ _ _ _ _ _) (fun r16 h16=>Ad (Bam _ _ _ (by simp only[Ar,List.length_nil];omega)) (fun r17 ⟨h17,_⟩=>Ad (Avw _ ?_) (fun f hf=>fin c n f hcc e1 hf)))
  simp only[Ar,List.length_nil]at h17 ⊢
  omega
 have by12: ∀c,Bv b c->Tot (fun r=>r.1.1.length<=40000/\Bv b r.2) (Dg c ((12:Int),())):=fun c hcc=>(C4 _ hcc zq7).mono fun r ⟨⟨h1,_⟩,h2⟩=>⟨by have h1:r.1.1.length=12:=h1;omega,h2⟩
 have byN: ∀c (n:YI),Bv b c->(0<=n.1/\(n.1<80\/n.1=0))->Tot (fun r=>r.1.1.length<=1000/\Bv b r.2) (Dg c n):=fun c n hcc hn=>(C4 _ hcc zq0).mono fun r ⟨⟨h1,_⟩,h2⟩=>⟨by omega,h2⟩
 have sesI: ∀(x:Int),(0<=x/\(x<(s.2.2.2.2.2.1.length:Int)\/x=0))->decide ((s.2.2.2.2.2.1.length:Int)>(0:Int))=true->Tot (fun e=>e.2.1.length<=40000/\e.2.2.1.length<=40000/\SP 40000 e) (idx s.2.2.2.2.2.1 x):=fun x hx hp=>by
  have hp:=of_decide_eq_true hp
  refine Ez hx.1 zq0 (fun e he=>?_)
  have:=A8u (p4.2 e he)
  exact⟨this.1,this.2.1,p4.2 e he⟩
 have pskI: ∀(x:Int),(0<=x/\(x<3\/x=0))->decide (IntKind.i64.wrap (1+x)<=(s.1.length:Int))=true->Tot (fun _=>True) (idx s.1 (IntKind.i64.wrap (IntKind.i64.wrap (1+x)-1))):=fun x hx hp=>by
  have hp:=of_decide_eq_true hp
  rw[w1p zq0]at hp
  rw[w1m zq0]
  exact Ez hx.1 zq0 (fun _ _=>trivial)
 repeat' first
  |exact mk _ _ _ _ _ _ _ Ng Ng (by first|assumption|exact Ab hc Ng) rfl
  |refine Ad (Az (b:=b) _ (by first|assumption|exact Ab hc Ng) zq7) (fun r h=>?_)
  |refine Ad (by12 _ (by first|assumption|exact Ab hc Ng)) (fun r ⟨_,_⟩=>?_)
  |refine Ad (Bf (b:=b) _ (by first|assumption|exact Ab hc Ng) (by first|decide|(dsimp only;omega))) (fun r ⟨_,_⟩=>?_)
  |refine Ad (pskI _ Ng Ng) (fun _ _=>?_)
  |refine Ad (sesI _ Ng Ng) (fun e ⟨_,_,_⟩=>?_)
  |refine Ad (Bal (b:=b) _ (by first|assumption|exact Ab hc Ng) Ng) (fun r ⟨⟨_,_⟩,_⟩=>?_)
  |refine Ad (Ji (b:=b) _ (by first|assumption|exact Ab hc Ng) zq7) (fun r h=>?_)
  |refine Ad (Avw _ (by first|omega|(simp only[Ar,List.length_nil];omega))) (fun r h=>?_)
  |refine Ad (byN _ _ (by first|assumption|exact Ab hc Ng) Ng) (fun r ⟨_,_⟩=>?_)
  |refine Am (fun _=>?_) (fun _=>?_)
  |exact Ah ⟨by dsimp only;omega,(by first|assumption|exact Ab hc Ng)⟩
theorem A6h (a0:YBs) (hl:a0.1.length<=1048576):Tot (fun r=>(SvP r.1/\Fd r.1=true)/\r.2.2.2.1.length<=1000) (K5 a0):=by
 unfold K5 Sz
 simp only[Af,Ag,Aa,Aj]
 refine Ad (Bmz _ hl) (fun c hc=>Ad ((Bgm hc).both (Bgq hc)) (fun r2 ⟨⟨⟨g1,g2,g3,g4,g5⟩,g6⟩,g7,_⟩=>?_))
 have hs:SvP r2.1:=⟨⟨Nat.le_trans g1.1 zq7,g1.2⟩,g2,g3,g4.le zq7 zq7,g5⟩
 exact Ad (Bdu _ (Ab hc g6) hs) (fun r3 ⟨h3,_⟩=>Ah ⟨⟨hs,g7⟩,h3⟩)
theorem Ag8: ∀ {l:List Ak} {i:Nat} {x y:Ak},l[i]? =some x->C5 y=C5 x->E7 (l.set i y)=E7 l
 |[],i,x,y,h,_=>by simp at h
 |a::r,0,x,y,h,e=>by
  simp at h;subst h
  simp only[List.set_cons_zero,E7,List.countP_cons,e]
 |a::r,i+1,x,y,h,e=>by
  have:=Ag8 (l:=r) (i:=i) (x:=x) (y:=y) (by simpa using h) e
  simp only[List.set_cons_succ,E7,List.countP_cons]at this ⊢
  omega
theorem Aza {E:Type} {f:E->Nat} {K:Nat}: ∀ {l:List E} {i:Nat} {x y:E},l[i]? =some x->f y<=f x+K->Bu f (l.set i y)<=Bu f l+K
 |[],i,x,y,h,_=>by simp at h
 |a::r,0,x,y,h,e=>by
  simp at h;subst h
  simp only[List.set_cons_zero,Bu];omega
 |a::r,i+1,x,y,h,e=>by
  have:=Aza (l:=r) (i:=i) (x:=x) (y:=y) (by simpa using h) e
  simp only[List.set_cons_succ,Bu];omega
theorem Bqh {t:Ch} {n:Int} {x y:Ak} (hn:Cd t+A0 y<=1073741824) (ht:Hl t=true) (h0:0<=n) (hx:t.2.1[n.toNat]? =some x) (ho:Cs y=true) (hs:y.2.2.1=x.2.2.1) (hd:C5 y=C5 x):
  I1 t (n,()) y=some ((t.1,t.2.1.set n.toNat y,()),(true,()))/\Hl (t.1,t.2.1.set n.toNat y,())=true/\C9 (t.1,t.2.1.set n.toNat y,())=C9 t:=by
 have hl:t.2.1.length<=Cd t:=by simp only[Cd];omega
 have h1:=A8k zq0 ht hx ho hs (.inr hd)
 refine⟨Bjy t (n,()) y x hn ht h0 hx h1,h1,?_⟩
 rw[Ki _ zq1,Ki t zq0]
 rw[show E7 (t.1,t.2.1.set n.toNat y,()).2.1=E7 t.2.1 from Ag8 hx hd]
def Aws (b:List YB):Ay:=((14:Int),(0:Int),(0:Int),([]:List YB),([]:List YB),(0:Int),(0:Int),b,([]:List YB),(0:Int),(0:Int),(0:Int),())
theorem A4d (b:List YB) (h:b.length<=4294967296):N7 (b,())=some (Aws b):=by
 unfold N7 Af1
 simp only[Ag,Aa]
 rw[Cg _ h];rfl
theorem A4e {b:List YB} (h:b.length<=100):Ln (Aws b)=true:=by
 rw[Mw]
 simp only[Aws,List.length_nil]
 exact⟨by omega,by omega,by omega,by omega,by omega,by omega,.inl trivial,.inl trivial,h,.inl trivial,A36⟩
def J1 (s:Bs):List Ao:=s.2.2.2.2.2.2.1
def Cc (s:Bs):List Ak:=s.2.2.2.2.2.1
def Mid (S X:Bs) (os:List Bc) (ns:List Ay) (fin init:Bool):Prop:=
 (Fd X=true/\J6 os/\Id ns)/\(os.length<=200000000/\ns.length<=200000000)/\J1 X=J1 S/\((Cc S).length<=(Cc X).length/\(Cc X).length<=(Cc S).length+1/\C9 (Ft S)<=C9 (Ft X))/\
 ((fin=false\/C9 (Ft S)=S.2.2.2.2.1)->(Cc X).length=(Cc S).length/\C9 (Ft X)=C9 (Ft S))/\(init=true->Ft X=Ft S/\os.length<=1)/\Bo X<=Bo S+100000
theorem Mid.none {S:Bs} {fin init:Bool} (hs:Fd S=true):Mid S S [] [] fin init:=
 ⟨⟨hs,fun _ h=>(by cases h),fun _ h=>(by cases h)⟩,⟨by simp,by simp⟩,rfl,⟨Nat.le_refl _,by omega,Int.le_refl _⟩,fun _=>⟨rfl,rfl⟩,fun _=>⟨rfl,by simp⟩,by omega⟩
theorem Bpf (S:Bs) (n:YI) (a:A7) (f:Aq) (hs:Fd S=true) (hn:Bo S<=4000000) (ha:Cn a=true) (ht:inR n.1 0 1000000=true) (hf:B6 f=true) (hk:f.1=1):Tot (fun r=>Mid S r.1 r.2.1.1 r.2.2.1 false true) (Ags S n a f):=by
 obtain⟨a1,a2,a3,a4,a5,a6,a7⟩:=Es.1 hs
 obtain⟨i1,i2⟩:=Bki hf hk
 have hcr:=(Du.1 a5).1
 have base:Tot (fun r:Bs×((List Bc)×Unit)×((List Ay)×Unit)=>Mid S r.1 r.2.1.1 r.2.2.1 false true) (some (S,(([]:List Bc),()),(([]:List Ay),()))):=Ah (Mid.none hs)
 have hj:S.2.1.length=32:=by simp only[beq_iff_eq]at a2;omega
 have hsd:S.2.2.1.length<=32:=by
  unfold Fw at a3
  simp only[Bool.and_eq_true,Bj]at a3
  omega
 have hdN:0<=S.2.2.2.1/\S.2.2.2.1<=10000:=by
  unfold Fw at a3
  simp only[Bool.and_eq_true,Bj]at a3
  omega
 unfold Ags Af2
 simp only[Af,Ag,Aa,Aj]
 refine Am (fun _=>base) (fun _=>?_)
 rw[Bcn S a _ zq0,Ae]
 refine Am (fun _=>base) (fun _=>Am (fun _=>base) (fun hN=>?_))
 have hN:=of_decide_eq_false hN
 have hroll:Gy (S.2.2.1,S.2.2.2.1,())=((S.2.2.1,S.2.2.2.1+1,()),Oc S.2.2.1 S.2.2.2.1):=by
  unfold Gy;rw[if_pos ⟨a3,by dsimp only;omega⟩]
 have h12:=A8r a3
 rw[Bml _ zq2,hroll,Ae]
 obtain⟨n,⟨⟩⟩:=n
 dsimp only at ht ⊢
 rw[Bdr S.2.1 a f.2.1 f.2.2.1 _ n hj ha i1 i2 h12 ht,Ae,Cg _ zq2,Ae,Cg _ zq2,Ae,A06 a f.2.1 f.2.2.1 _ n ha i1 i2 h12 ht,Ae]
 have hb:=Tr (a:=a) (id:=f.2.1) (t:=n) i2 h12
 have hm:=A4c (a:=a) (id:=f.2.1) (t:=n) hj i2 h12
 rw[Bmp _ _ zq0 zq0,Ae,A4d _ zq0,Ae]
 refine Ah ⟨⟨Es.2 ⟨a1,a2,?_,a4,a5,a6,a7⟩,fun o ho=>?_,fun m hmm=>?_⟩,⟨by simp,by simp⟩,rfl,⟨Nat.le_refl _,by show S.2.2.2.2.2.1.length<=S.2.2.2.2.2.1.length+1;omega,Int.le_refl _⟩,fun _=>⟨rfl,rfl⟩,fun _=>⟨rfl,by simp⟩,?_⟩
 .unfold Fw at a3 ⊢
  simp only[Bool.and_eq_true,Bj]at a3 ⊢
  exact⟨a3.1,by omega⟩
 .rw[List.mem_singleton.1 ho]
  refine⟨?_,ha⟩
  unfold B6
  simp[i2,h12,hm,ht,show inR 2 4 8=false by decide]
 .simp only[List.mem_cons,List.not_mem_nil,or_false]at hmm
  rcases hmm with rfl|rfl
  .exact A4e zq0
  .exact Bde (.inr hj) zq0
 .simp only[Bo];omega
theorem Aqu {S X:Bs} {i:Int} {x y:Ak} {fin:Bool} {os:List Bc} {ns:List Ay} (hX:Mid S X [] ns fin false) (h0:0<=i) (hx:(Cc X)[i.toNat]? =some x) (hn:A0 y<=A0 x+900) (ho:Cs y=true) (hs:y.2.2.1=x.2.2.1) (hi:y.1=x.1) (hd:C5 y=C5 x) (hos:J6 os) (hol:os.length<=200000000) {ms:List Ay} (hms:Id ms) (hml:ms.length<=200000000) (hnd:Bo X<=Bo S+90000) {sd:List YB} {N:Int} (hdd:Fw (sd,N,())=true) (hsd:sd.length<=X.2.2.1.length):
  Mid S (X.1,X.2.1,sd,N,X.2.2.2.2.1,(Cc X).set i.toNat y,J1 X,()) os ms fin false:=by
 obtain⟨⟨m1,_,_⟩,_,m3,⟨m4,m5,m6⟩,m7,m8,_⟩:=hX
 obtain⟨a1,a2,a3,a4,a5,a6,a7⟩:=Es.1 m1
 have hl12:=(Cc X).length
 have hlt:(Cc X).length<=4294967296:=by
  unfold Hl at a4
  simp only[Bool.and_eq_true,Bool.not_eq_true',decide_eq_false_iff_not]at a4
  have:=a4.2.1
  show X.2.2.2.2.2.1.length<=_
  omega
 have ht:=A8k (t:=(X.2.2.2.2.1,X.2.2.2.2.2.1,())) hlt a4 hx ho hs (.inr hd)
 have hlv:C9 (X.2.2.2.2.1,(Cc X).set i.toNat y,())=C9 (Ft X):=by
  rw[Ki _ zq1,Ki (Ft X) hlt]
  rw[show E7 (X.2.2.2.2.1,(Cc X).set i.toNat y,()).2.1=E7 (Ft X).2.1 from Ag8 hx hd]
 have hsum:Bu A0 ((Cc X).set i.toNat y)<=Bu A0 (Cc X)+900:=Aza hx hn
 have hxm:x∈Cc X:=List.mem_of_getElem? hx
 refine⟨⟨Es.2 ⟨a1,a2,hdd,ht,a5,a6,fun z hz=>?_⟩,hos,hms⟩,⟨hol,hml⟩,m3,⟨?_,?_,?_⟩,fun h=>?_,fun h=>(by cases h),?_⟩
 .rcases List.mem_or_eq_of_mem_set hz with hz|hz
  .exact a7 z hz
  .rw[hz,hi];exact a7 x hxm
 .show(Cc S).length<=((Cc X).set i.toNat y).length;simpa using m4
 .show((Cc X).set i.toNat y).length<=_;simpa using m5
 .show C9 (Ft S)<=C9 (X.2.2.2.2.1,(Cc X).set i.toNat y,());rw[hlv];exact m6
 .obtain⟨k1,k2⟩:=m7 h
  exact⟨by show((Cc X).set i.toNat y).length=_;simpa using k1,by show C9 (X.2.2.2.2.1,(Cc X).set i.toNat y,())=_;rw[hlv];exact k2⟩
 .have e1:Bo (X.1,X.2.1,sd,N,X.2.2.2.2.1,(Cc X).set i.toNat y,J1 X,())=X.1.length+Bu Ey X.1+X.2.1.length+sd.length+(Cc X).length+Bu A0 ((Cc X).set i.toNat y)+(J1 X).length:=by simp only[Bo,List.length_set]
  have e2:Bo X=X.1.length+Bu Ey X.1+X.2.1.length+X.2.2.1.length+(Cc X).length+Bu A0 (Cc X)+(J1 X).length:=rfl
  omega
theorem Bdv (p:List YB) (n:YI) (a:A7) (f:Aq) (hp:G6 (p,())=true) (hn:inR n.1 0 1000000=true) (ha:Cn a=true) (hf:B6 f=true) (hk:f.1=3):Tot (fun s=>Cs s=true/\C5 s=false/\s.1=f.2.1/\s.2.1=f.2.2.1/\s.2.2.1=f.2.2.2.1/\s.2.2.2.2.2.2.1.length=32/\A0 s<=300) (Abq (p,()) n a f):=by
 obtain⟨c1,c2,c3,c4,c5,c6⟩:=Aiu hf hk
 have hnf:=X7 hf
 obtain⟨r,r1,r2,r3⟩:=Bjs (p,()) n a f zq0
 have hek:=Avn (p:=p) hp c2 c3
 refine⟨r,r1,?_⟩
 unfold Kp Qe at r2
 simp only[Af,Ag,Aa,Aj,List.length_nil,List.nil_append,Nat.zero_add]at r2
 rw[Aaj,Ae,hp,Cq,Ir,Jc]at r2
 simp only[Ae,Bool.not_true,An]at r2
 rw[hn,ha,hf,show(f.1 != (3:Int))=false by simp[hk]]at r2
 simp only[Bool.not_true,An]at r2
 rw[Al zq0,Al zq0,Ba,Ba,Aee,Ae,show He ((1:Int),()) (f.2.2.2.1,()) (Lm p f.2.2.1 f.2.2.2.1 0,())=_ from(Ak4 1 f.2.2.2.1 _ (.inr rfl) c3 hek).2,Ae,show Lg a=some (a.1,a.2.1,[],())from rfl,Ae]at r2
 simp only[Option.some.injEq]at r2
 subst r2
 exact⟨Sc (Bj.1 c1) c2 c3 (Ay2 (.inr rfl) c3 hek) rfl (Kh _) (Hy.2 ⟨ha,by simp,(fun x hx=>by cases hx),List.Pairwise.nil⟩) (Bj.1 c4) (Bj.1 hn),rfl,rfl,rfl,rfl,hek,by omega⟩
theorem Bpg {id:Int} {cn sn k:List YB} {a:A7} {n:Int} (h1:inR id 1 9=true) (h2:cn.length=12) (h3:sn.length=12) (h4:k.length=32) (ha:Cn a=true) (hn:inR n 0 1000000=true):Ln ((4:Int),id,(0:Int),cn,sn,(0:Int),(0:Int),([]:List YB),k,a.1,a.2.1,n,())=true:=by
 have h1:=Bj.1 h1
 have hn:=Bj.1 hn
 rw[Mw]
 simp only[List.length_nil]
 exact⟨by omega,by omega,by omega,by omega,by omega,hn,.inr h2,.inr h3,by omega,.inr h4,ha⟩
theorem Bsg {S:Bs} (hs:Fd S=true) {id:Int} (h1:inR id 1 9=true) (h2:id<=(S.1.length:Int)): ∃e,idx S.1 (IntKind.i64.wrap (id-1))=some e/\G6 e=true:=by
 obtain⟨a1,a2,a3,a4,a5,a6,a7⟩:=Es.1 hs
 have h1:=Bj.1 h1
 rw[w64 zq0]
 have hlt:(id-1).toNat<S.1.length:=by omega
 have hx:=List.getElem?_eq_getElem hlt
 refine⟨S.1[(id-1).toNat],by unfold idx;rw[if_pos zq0];exact hx,?_⟩
 have:=G7.1 a6 _ _ hx
 simpa using this
theorem A4f {l:List Ak} {s:List YB} (h:0<=Fl l s): ∃x,l[(Fl l s).toNat]? =some x/\idx l (Fl l s)=some x:=by
 cases hf:H8 (fun _ (x:Ak)=>Dx x.2.2.1 s) l 0 with
 |none=>unfold Fl Lv at h;rw[hf]at h;simp at h
 |some k=>
  have e:Fl l s=(k:Int):=by unfold Fl Lv;rw[hf];rfl
  obtain⟨j,y,hk,h2,h3,_⟩:=R8 hf
  have hk:k=j:=by omega
  subst hk
  refine⟨y,by rw[e];simpa using h2,?_⟩
  unfold idx
  rw[if_pos h,e]
  simpa using h2
theorem Bhx {S X:Bs} {i:Int} {x:Ak} {ns0:List Ay} {fin:Bool} (hX:Mid S X [] ns0 fin false) (hn:Bo X<=5000000) (h0:0<=i) (hx:(Cc X)[i.toNat]? =some x) (hd:C5 x=false) (hnd:Bo X<=Bo S+90000) (hnl:ns0.length<=100):
  Tot (fun r=>Mid S r.1 r.2.1.1 r.2.2.1 fin false) (ob (Nd x) fun r19=>ob (I1 (X.2.2.2.2.1,Cc X,()) (i,()) r19.1) fun r20=>chk (decide (ns0.length+r19.2.2.1.length<=4294967296)) (some ((X.1,X.2.1,X.2.2.1,X.2.2.2.1,r20.1.1,r20.1.2.1,J1 X,()),r19.2.1,((ns0++r19.2.2.1),())))):=by
 obtain⟨⟨m1,_,m2⟩,_⟩:=id hX
 obtain⟨a1,a2,a3,a4,a5,a6,a7⟩:=Es.1 m1
 have hxm:x∈Cc X:=List.mem_of_getElem? hx
 have hsm:A0 x<=Bu A0 (Cc X):=Ag7 (f:=A0) hxm
 have e2:Bo X=X.1.length+Bu Ey X.1+X.2.1.length+X.2.2.1.length+(Cc X).length+Bu A0 (Cc X)+(J1 X).length:=rfl
 have ho:Cs x=true:=((Aci (by show(Cc X).length<=_;omega)).1 a4).2.2.2.1 x hxm
 obtain⟨r,os,ns,r1,_,r3,r4,r5,r6⟩:=Bjx x zq0
 obtain⟨r7,r8,r9⟩:=r6 ho hd
 rw[r1,Ae]
 have hnt:Cd (X.2.2.2.2.1,Cc X,())<=5000000:=by simp only[Cd];omega
 obtain⟨p1,p2,p3⟩:=Bqh (t:=(X.2.2.2.2.1,Cc X,())) (y:=r) zq0 a4 h0 hx r7 r8 (by rw[r9,hd])
 rw[p1,Ae]
 refine Eh (Al zq2) (Ah ?_)
 rcases Btb x zq0 ho hd r1 with⟨rfl,rfl,rfl⟩|⟨w1,w2,w3,w4,w5,w6,w7⟩
 .dsimp only
  rw[List.append_nil]
  exact Aqu hX h0 hx zq0 ho rfl rfl rfl (fun _ h=>by cases h) zq3 m2 zq0 hnd a3 (Nat.le_refl _)
 .exact Aqu hX h0 hx zq0 w1 w5 w4 (by rw[w6,hd]) w2 zq0 (Ks m2 w3) (by rw[List.length_append];omega) hnd a3 (Nat.le_refl _)
theorem Bq9 (S:Bs) (n:YI) (a:A7) (f:Aq) (hs:Fd S=true) (hn:Bo S<=4000000):Tot (fun r=>Mid S r.1 r.2.1.1 r.2.2.1 true false) (Z3 S n a f):=by
 obtain⟨a1,a2,a3,a4,a5,a6,a7⟩:=Es.1 hs
 have e2:Bo S=S.1.length+Bu Ey S.1+S.2.1.length+S.2.2.1.length+(Cc S).length+Bu A0 (Cc S)+(J1 S).length:=rfl
 have base:Tot (fun r:Bs×((List Bc)×Unit)×((List Ay)×Unit)=>Mid S r.1 r.2.1.1 r.2.2.1 true false) (some (S,(([]:List Bc),()),(([]:List Ay),()))):=Ah (Mid.none hs)
 have hj:S.2.1.length=32:=by simp only[beq_iff_eq]at a2;omega
 have hnt:Cd (S.2.2.2.2.1,S.2.2.2.2.2.1,())<=4000000:=by
  show(Cc S).length+Bu A0 (Cc S)<=_
  omega
 unfold Z3 Zv
 simp only[Af,Ag,Aa,Aj]
 obtain⟨k,k1,k3⟩:=Bpd S.2.1 n a f
 rw[k1,Ae]
 refine Am (fun _=>base) (fun hk0=>Am (fun _=>base) (fun hid=>?_))
 have hk0:k=0:=by simpa using hk0
 have hid:=of_decide_eq_false hid
 obtain⟨_,ht,ha,hk,hf⟩:=k3 hk0
 obtain⟨c1,c2,c3,c4,c5,c6⟩:=Aiu hf hk
 obtain⟨⟨e,⟨⟩⟩,he,hpsk⟩:=Bsg hs c1 zq0
 obtain⟨pk,pk1⟩:=Bkj e f
 rw[he,Ae,pk1,Ae]
 refine Am (fun _=>base) (fun _=>?_)
 rw[Aad _ _ (by show(Cc S).length<=_;omega),Ae]
 refine Am (fun hneg=>?_) (fun hneg=>?_)
 .rw[Ae]
  refine Ad (Bdv e n a f hpsk ht ha hf hk) (fun r6 ⟨s1,s2,s3,s4,s5,s6,s7⟩=>?_)
  refine Ad (Bkd (S.2.2.2.2.1,S.2.2.2.2.2.1,()) r6 zq0) (fun r7 h7=>?_)
  refine Am (fun _=>base) (fun h0=>?_)
  have h0:r7.2.1=0:=by simpa using h0
  obtain⟨q1,q2,q3,q4⟩:=Bna (by show(Cc S).length<=_;omega) h7 h0
  obtain⟨_,_,_,_,_,_,q5⟩:=h7.2 h0
  obtain⟨⟨rc,rl,⟨⟩⟩,rk⟩:=r7
  dsimp only at q1 q2 q3 q4 q5 ⊢
  simp only[Prod.mk.injEq,and_true]at q5
  obtain⟨rfl,rfl⟩:=q5
  have hfk:=Avl hpsk
  have hpb:(Hu f.2.1 f.2.2.1 f.2.2.2.1 f.2.2.2.2.1 f.2.2.2.2.2.1).length<=46:=by rw[Asf];cases Nl f.2.1 f.2.2.1 f.2.2.2.1 f.2.2.2.2.1 f.2.2.2.2.2.1<;>simp
  have hmb:=Tr (a:=a) (id:=f.2.1) (t:=f.2.2.2.2.1) c2 c3
  rw[A06 a f.2.1 f.2.2.1 f.2.2.2.1 f.2.2.2.2.1 ha c1 c2 c3 c4,Ae,A35 _ _ _ zq0 zq0 zq0,Ae,Ay3,Ae,Ay4,Ae,A35 _ _ _ zq0 zq0 zq0,Ae,Cg _ zq2,Ae,Cg _ zq2,Ae,Cg _ zq2,Ae]
  refine Eh (Al zq3) ?_
  rw[Aad _ _ (by show(Cc S++[r6]).length<=_;simp;omega),Ae]
  have hfs:Fl (S.2.2.2.2.2.1++[r6]) f.2.2.2.1=((Cc S).length:Int):=by rw[<-s5];exact q3
  rw[hfs]
  have hgx:(S.2.2.2.2.2.1++[r6])[(((Cc S).length:Nat):Int).toNat]? =some r6:=by simp[Cc]
  rw[show idx (S.2.2.2.2.2.1++[r6]) (((Cc S).length:Nat):Int)=some r6 by unfold idx;rw[if_pos zq0];exact hgx,Ae]
  have hmid: ∀ns,Id ns->ns.length<=100->Mid S (S.1,S.2.1,S.2.2.1,S.2.2.2.1,S.2.2.2.2.1,S.2.2.2.2.2.1++[r6],S.2.2.2.2.2.2.1,()) [] ns true false:=fun ns hns hnl=>by
   refine⟨⟨Es.2 ⟨a1,a2,a3,q1,a5,a6,fun z hz=>?_⟩,fun _ h=>(by cases h),hns⟩,⟨by simp,by omega⟩,rfl,⟨?_,?_,?_⟩,fun h=>?_,fun h=>(by cases h),?_⟩
   .rcases List.mem_append.1 hz with hz|hz
    .exact a7 z hz
    .rw[List.mem_singleton.1 hz,s3];show f.2.1<=(S.1.length:Int);omega
   .show(Cc S).length<=(Cc S++[r6]).length;simp
   .show(Cc S++[r6]).length<=_;simp
   .show C9 (Ft S)<=C9 (S.2.2.2.2.1,S.2.2.2.2.2.1++[r6],());rw[q2];show C9 (Ft S)<=C9 (Ft S)+1;omega
   .rcases h with h|h
    .cases h
    .have q4:C9 (Ft S)<S.2.2.2.2.1:=q4
     omega
   .have:Bu A0 (Cc S++[r6])=Bu A0 (Cc S)+A0 r6:=by
     rw[Sa];simp[Bu]
    show S.1.length+Bu Ey S.1+S.2.1.length+S.2.2.1.length+(Cc S++[r6]).length+Bu A0 (Cc S++[r6])+(J1 S).length<=Bo S+100000
    rw[List.length_append,this,List.length_singleton];omega
  have hnotes:Id (([]:List Ay)++[Hm S.2.1 f.2.2.2.1 (X8 a f.2.1 f.2.2.1 f.2.2.2.1 f.2.2.2.2.1),Hm (Jg e) f.2.2.2.1 (Hu f.2.1 f.2.2.1 f.2.2.2.1 f.2.2.2.2.1 f.2.2.2.2.2.1),((4:Int),f.2.1,(0:Int),f.2.2.1,f.2.2.2.1,(0:Int),(0:Int),([]:List YB),r6.2.2.2.2.2.2.1,a.1,a.2.1,n.1,())]):=fun m hm=>by
   simp only[List.nil_append,List.mem_cons,List.not_mem_nil,or_false]at hm
   rcases hm with rfl|rfl|rfl
   .exact A02 (.inr hj) (.inr c3) zq0
   .exact A02 (.inr hfk) (.inr c3) zq0
   .exact Bpg c1 c2 c3 s6 ha ht
  have hm3:=hmid _ hnotes zq3
  refine Am (fun _=>Ah hm3) (fun _=>Am (fun _=>Ah hm3) (fun _=>?_))
  rw[I3,Ae]
  refine Am (fun _=>Ah hm3) (fun _=>?_)
  exact Bhx hm3 (by
   show S.1.length+Bu Ey S.1+S.2.1.length+S.2.2.1.length+(Cc S++[r6]).length+Bu A0 (Cc S++[r6])+(J1 S).length<=5000000
   rw[Sa,List.length_append];simp[Bu];omega) zq0 hgx s2 (by
   show S.1.length+Bu Ey S.1+S.2.1.length+S.2.2.1.length+(Cc S++[r6]).length+Bu A0 (Cc S++[r6])+(J1 S).length<=Bo S+90000
   rw[Sa,List.length_append];simp[Bu];omega) zq3
 .have hneg:=of_decide_eq_false hneg
  dsimp only at hneg
  rw[Ae]
  obtain⟨x,hx,hix⟩:=A4f (l:=S.2.2.2.2.2.1) (s:=f.2.2.2.1) zq0
  rw[hix,Ae]
  refine Am (fun _=>base) (fun hd=>Am (fun _=>base) (fun _=>?_))
  rw[I3,Ae]
  refine Am (fun _=>base) (fun _=>?_)
  exact Bhx (ns0:=[]) (Mid.none hs) zq0 (Int.not_lt.1 hneg) hx hd zq0 zq3
theorem Bsh {sn b:List YB} {a:A7} {n:Int} (h1:sn.length=12) (h2:b.length<=100) (ha:Cn a=true) (hn:inR n 0 1000000=true):Ln ((7:Int),(0:Int),(0:Int),([]:List YB),sn,(0:Int),(0:Int),b,([]:List YB),a.1,a.2.1,n,())=true:=by
 have hn:=Bj.1 hn
 rw[Mw]
 simp only[List.length_nil]
 exact⟨by omega,by omega,by omega,by omega,by omega,hn,.inl trivial,.inr h1,h2,.inl trivial,ha⟩
theorem Bdw (S:Bs) (n:YI) (a:A7) (f:Aq) (d:YBs) (sd:List YB) (N:Int) {i:Int} {x:Ak} (hs:Fd S=true) (hn:Bo S<=4000000) (ha:Cn a=true) (ht:inR n.1 0 1000000=true) (hf:B6 f=true) (hk:inR f.1 4 8=true) (w1:wfB f.2.2.2.1) (w2:wfB (Cm x).2.1) (hdl:d.1.length<=12) (hdd:Fw (sd,N,())=true) (hsd:sd.length<=S.2.2.1.length) (h0:0<=i) (hx:(Cc S)[i.toNat]? =some x) (hd:C5 x=false):
  Tot (fun r:Bs×((List Bc)×Unit)×((List Ay)×Unit)=>Mid S r.1 r.2.1.1 r.2.2.1 false false) (ob (Lk x n a f d) fun r6=>ob (I1 (S.2.2.2.2.1,S.2.2.2.2.2.1,()) (i,()) r6.1) fun r7=>br r6.2.2.2.1 (ob (Bk (f.2.2.2.1,())) fun r8=>ob (Bk d) fun r9=>ob (N7 d) fun r10=>chk (decide ([r10].length+r6.2.2.1.1.length<=4294967296)) (chk (decide (([r10]++r6.2.2.1.1).length+[((7:Int),(0:Int),(0:Int),([]:List YB),r8.1,(0:Int),(0:Int),r9.1,([]:List YB),a.1,a.2.1,n.1,())].length<=4294967296)) (some ((S.1,S.2.1,sd,N,r7.1.1,r7.1.2.1,S.2.2.2.2.2.2.1,()),r6.2.1,((([r10]++r6.2.2.1.1)++[((7:Int),(0:Int),(0:Int),([]:List YB),r8.1,(0:Int),(0:Int),r9.1,([]:List YB),a.1,a.2.1,n.1,())]),()))))) (some ((S.1,S.2.1,S.2.2.1,S.2.2.2.1,r7.1.1,r7.1.2.1,S.2.2.2.2.2.2.1,()),r6.2.1,r6.2.2.1))):=by
 obtain⟨a1,a2,a3,a4,a5,a6,a7⟩:=Es.1 hs
 have hfn:=X7 hf
 have hbody:=Aef hf hk
 have hxm:x∈Cc S:=List.mem_of_getElem? hx
 have hsm:A0 x<=Bu A0 (Cc S):=Ag7 (f:=A0) hxm
 have e2:Bo S=S.1.length+Bu Ey S.1+S.2.1.length+S.2.2.1.length+(Cc S).length+Bu A0 (Cc S)+(J1 S).length:=rfl
 have ho:Cs x=true:=((Aci (by show(Cc S).length<=_;omega)).1 a4).2.2.2.1 x hxm
 obtain⟨r,os,ns,k,r1,_,r3,r4,r5⟩:=Bgc x n a f d zq0 zq0 zq0 w1 w2
 have hnt:Cd (S.2.2.2.2.1,S.2.2.2.2.2.1,())<=4000000:=by
  show(Cc S).length+Bu A0 (Cc S)<=_
  omega
 have hW:=Bse x n a f d zq0 zq0 w1 w2 ho hd hdl r1
 have hr:Cs r=true/\J6 os/\Id ns/\r.1=x.1/\r.2.2.1=x.2.2.1/\C5 r=false:=by
  rcases hW with⟨rfl,rfl,rfl,rfl⟩|⟨g1,g2,g3,g4,g5,g6,_⟩
  .exact⟨ho,fun _ h=>(by cases h),fun _ h=>(by cases h),rfl,rfl,hd⟩
  .exact⟨g1,g2,g3,g4,g5,g6⟩
 obtain⟨g1,g2,g3,g4,g5,g6⟩:=hr
 rw[r1,Ae]
 obtain⟨p1,p2,p3⟩:=Bqh (t:=(S.2.2.2.2.1,S.2.2.2.2.2.1,())) (y:=r) zq0 a4 h0 hx g1 g5 (by rw[g6,hd])
 rw[p1,Ae]
 have hosl:os.length<=100000000:=by omega
 have hnsl:ns.length<=100000000:=by omega
 refine Am (fun _=>?_) (fun _=>?_)
 .obtain⟨d,⟨⟩⟩:=d
  dsimp only at hdl
  rw[Cg _ zq2,Ae,Cg _ zq2,Ae,A4d _ zq0,Ae]
  refine Eh (Al zq1) (Eh (Al zq1) (Ah ?_))
  have hno:Id (([Aws d]++ns)++[((7:Int),(0:Int),(0:Int),([]:List YB),f.2.2.2.1,(0:Int),(0:Int),d,([]:List YB),a.1,a.2.1,n.1,())]):=Ks (Ks (Ev (A4e zq0)) g3) (Ev (Bsh hbody.1 zq0 ha ht))
  exact Aqu (Mid.none hs) h0 hx r3 g1 g5 g4 (by rw[g6,hd]) g2 zq0 hno zq1 zq0 hdd hsd
 .exact Ah (Aqu (Mid.none hs) h0 hx r3 g1 g5 g4 (by rw[g6,hd]) g2 zq0 g3 zq0 zq0 a3 (Nat.le_refl _))
theorem Bph (S:Bs) (n:YI) (a:A7) (f:Aq) (hs:Fd S=true) (hn:Bo S<=4000000) (ha:Cn a=true) (ht:inR n.1 0 1000000=true) (hf:B6 f=true) (hk:inR f.1 4 8=true) (w1:wfB f.2.2.2.1) (w2: ∀x∈Cc S,wfB (Cm x).2.1):Tot (fun r=>Mid S r.1 r.2.1.1 r.2.2.1 false false) (T0 S n a f):=by
 obtain⟨a1,a2,a3,a4,a5,a6,a7⟩:=Es.1 hs
 have e2:Bo S=S.1.length+Bu Ey S.1+S.2.1.length+S.2.2.1.length+(Cc S).length+Bu A0 (Cc S)+(J1 S).length:=rfl
 have base:Tot (fun r:Bs×((List Bc)×Unit)×((List Ay)×Unit)=>Mid S r.1 r.2.1.1 r.2.2.1 false false) (some (S,(([]:List Bc),()),(([]:List Ay),()))):=Ah (Mid.none hs)
 have hro:Fw ((Gy (S.2.2.1,S.2.2.2.1,())).1.1,(Gy (S.2.2.1,S.2.2.2.1,())).1.2.1,())=true:=by
  have a3':=a3
  unfold Fw at a3'
  simp only[Bool.and_eq_true,Bj]at a3'
  unfold Gy
  split
  .rename_i h
   unfold Fw
   simp only[Bool.and_eq_true,Bj]
   have:=h.2
   dsimp only at this
   exact⟨a3'.1,by omega⟩
  .exact a3
 have hr1:=Bc0 (S.2.2.1,S.2.2.2.1,())
 have hr2:=Bou (S.2.2.1,S.2.2.2.1,())
 unfold T0 Tz
 simp only[Af,Ag,Aa,Aj]
 rw[Aad _ _ (by show(Cc S).length<=_;omega),Ae]
 refine Am (fun _=>base) (fun hneg=>?_)
 have hneg:=of_decide_eq_false hneg
 dsimp only at hneg
 obtain⟨x,hx,hix⟩:=A4f (l:=S.2.2.2.2.2.1) (s:=f.2.2.2.1) (Int.not_lt.1 hneg)
 rw[hix,Ae]
 refine Am (fun _=>base) (fun hd=>?_)
 rw[Bml _ zq2,Ae,Bcn S a _ zq0,Ae]
 have hxm:x∈Cc S:=List.mem_of_getElem? hx
 refine Am (fun _=>?_) (fun _=>?_)
 .rw[Ae]
  exact Bdw S n a f (([]:List YB),()) _ _ hs hn ha ht hf hk w1 (w2 x hxm) zq3 hro (by rw[hr1];exact Nat.le_refl _) (Int.not_lt.1 hneg) hx hd
 .rw[Ae]
  exact Bdw S n a f ((Gy (S.2.2.1,S.2.2.2.1,())).2,()) _ _ hs hn ha ht hf hk w1 (w2 x hxm) hr2 hro (by rw[hr1];exact Nat.le_refl _) (Int.not_lt.1 hneg) hx hd
def frO (x:Bc):Aq:=(x.2.2.1,x.2.2.2.1,x.2.2.2.2.1,x.2.2.2.2.2.1,x.2.2.2.2.2.2.1,x.2.2.2.2.2.2.2.1,x.2.2.2.2.2.2.2.2.1,x.2.2.2.2.2.2.2.2.2.1,x.2.2.2.2.2.2.2.2.2.2.1,x.2.2.2.2.2.2.2.2.2.2.2.1,x.2.2.2.2.2.2.2.2.2.2.2.2.1,())
def szO (x:Bc):Int:=((Nh (frO x)).length:Int)
def Gp (t:Ch) (p:List Bc×List Ao) (x:Bc):List Bc×List Ao:=
 bif A0v t (x.1,x.2.1,())then(p.1++[x],p.2)else match Sd p.2 (x.1,x.2.1,()) (szO x)with|some r=>(p.1++[x],r)|none=>p
def Jw (t:Ch) (l:List Bc) (cr:List Ao):List Bc×List Ao:=l.foldl (Gp t) ([],cr)
theorem Bkk {t:Ch} {l:List Bc} {x:Bc} {cr:List Ao}:Jw t (l++[x]) cr=Gp t (Jw t l cr) x:=by
 unfold Jw;rw[List.foldl_append];rfl
def J7 (t:Ch):List Bc->Int
 |[]=>0
 |x::r=>(bif A0v t (x.1,x.2.1,())then 0 else szO x)+J7 t r
theorem Aqv {t:Ch}: ∀ {a b:List Bc},J7 t (a++b)=J7 t a+J7 t b
 |[],b=>by simp[J7]
 |x::a,b=>by simp only[List.cons_append,J7,Aqv];omega
theorem A07 {t:Ch}: ∀(l:List Bc) (p:List Bc×List Ao),Ck p.2=true->
  Ck (l.foldl (Gp t) p).2=true/\Gf (l.foldl (Gp t) p).2-J7 t (l.foldl (Gp t) p).1=Gf p.2-J7 t p.1/\(l.foldl (Gp t) p).2.length=p.2.length/\(l.foldl (Gp t) p).1.length<=p.1.length+l.length/\ ∀x∈(l.foldl (Gp t) p).1,x∈p.1\/x∈l
 |[],p,h=>⟨h,rfl,rfl,by simp,fun x hx=>.inl hx⟩
 |y::l,p,h=>by
  rw[List.foldl_cons]
  have hst:Ck (Gp t p y).2=true/\Gf (Gp t p y).2-J7 t (Gp t p y).1=Gf p.2-J7 t p.1/\(Gp t p y).2.length=p.2.length/\(Gp t p y).1.length<=p.1.length+1/\ ∀x∈(Gp t p y).1,x∈p.1\/x=y:=by
   unfold Gp
   cases ha:A0v t (y.1,y.2.1,())with
   |true=>
    simp only[cond_true]
    refine⟨h,?_,by first|trivial|rfl,by simp,fun x hx=>by simpa using hx⟩
    rw[Aqv];simp only[J7,ha,cond_true];omega
   |false=>
    simp only[cond_false]
    cases hsp:Sd p.2 (y.1,y.2.1,()) (szO y)with
    |none=>exact⟨h,by first|trivial|rfl,by first|trivial|rfl,by simp,fun x hx=>.inl hx⟩
    |some r=>
     obtain⟨_,g2,g3,g4⟩:=A8t hsp
     refine⟨g2,?_,g4,by simp,fun x hx=>by simpa using hx⟩
     dsimp only
     rw[Aqv,g3];simp only[J7,ha,cond_false];omega
  obtain⟨s1,s2,s3,s4,s5⟩:=hst
  obtain⟨i1,i2,i3,i4,i5⟩:=A07 l (Gp t p y) s1
  refine⟨i1,by omega,by omega,by simp only[List.length_cons];omega,fun x hx=>?_⟩
  rcases i5 x hx with h|h
  .rcases s5 x h with h|h
   .exact .inl h
   .exact .inr (by rw[h];simp)
  .exact .inr (by simp[h])
theorem Bsi {i:Nat} (h:i<=1000000000):Nat.ble (Int.toNat (i:Int)+1) (Int.toNat (IntKind.i64.wrap ((i:Int)+1)))=true:=by
 rw[w64 zq0]
 exact Nat.ble_eq_true_of_le zq0
theorem Bpi (ns:List Ay) (frames:List Bc) (cr:List Ao) (e1:List YBs) (e2 e3:List YB) (e4 e5:Int) (e6:List Ak) (e7:List Ao) (x1:List YBs) (x2 x3:List YB) (x4 cap:Int) (l:List Ak) (hcr:Ck cr=true) (hl:frames.length<=200000000) (hfr:J6 frames) (hT:l.length<=4294967296):
  Ax D0 (ns,([]:List Bc),frames,(frames.length:Int),(0:Int),e1,e2,e3,e4,e5,e6,e7,x1,x2,x3,x4,cap,l,cr,())=some (ns,(Jw (cap,l,()) frames cr).1,e1,e2,e3,e4,e5,e6,e7,x1,x2,x3,x4,cap,l,(Jw (cap,l,()) frames cr).2,()):=by
 have e:=C0 (B:=D0) frames.length (fun i=>(ns,(Jw (cap,l,()) (frames.take i) cr).1,frames,(frames.length:Int),(i:Int),e1,e2,e3,e4,e5,e6,e7,x1,x2,x3,x4,cap,l,(Jw (cap,l,()) (frames.take i) cr).2,())) (ns,(Jw (cap,l,()) frames cr).1,e1,e2,e3,e4,e5,e6,e7,x1,x2,x3,x4,cap,l,(Jw (cap,l,()) frames cr).2,())
  (fun i hi=>by
   have hx:=List.getElem?_eq_getElem hi
   have hxm:=List.getElem_mem hi
   have htk:frames.take (i+1)=frames.take i++[frames[i]]:=by rw[List.take_add_one,hx];rfl
   rw[htk,Bkk]
   obtain⟨_,_,f3,f4,_⟩:=A07 (t:=(cap,l,())) (frames.take i) ([],cr) hcr
   have hc8:=(Du.1 hcr).1
   have hfo:=(hfr _ hxm).1
   have hfn:=X7 hfo
   have f3:(Jw (cap,l,()) (frames.take i) cr).2.length=cr.length:=f3
   have f4:(Jw (cap,l,()) (frames.take i) cr).1.length<=0+(frames.take i).length:=f4
   have f5:(frames.take i).length<=i:=by simp;omega
   generalize Jw (cap,l,()) (frames.take i) cr=p at f3 f4
   generalize frames[i]=x at hx hxm hfo hfn
   obtain⟨ou,cc⟩:=p
   dsimp only at f3 f4
   unfold D0 Gp
   simp only[Af,Ag,Aa,Aj]
   rw[Al zq0,A9,Nat.beq_refl,Ba,Ca hx,Ae,Bl1 _ _ hT,Ae,Bsi zq0,w64 (n:=(i:Int)+1) zq0]
   dsimp only
   cases A0v (cap,l,()) (x.1,x.2.1,())with
   |true=>
    simp only[Bool.not_true,An,Ba,cond_true]
    rw[Al zq1,Ba]
    rfl
   |false=>
    simp only[Bool.not_false,A9,Ba,cond_false]
    rw[Bpb _ zq0,Ae,show Ail (cc,()) (x.1,x.2.1,()) _=_ from Bpa cc (x.1,x.2.1,()) _ zq0,Ae]
    show _=some (Sum.inl (ns,(match Sd cc (x.1,x.2.1,()) (szO x)with|some r=>(ou++[x],r)|none=>(ou,cc)).1,_))
    rw[show(((Nh (x.2.2.1,x.2.2.2.1,x.2.2.2.2.1,x.2.2.2.2.2.1,x.2.2.2.2.2.2.1,x.2.2.2.2.2.2.2.1,x.2.2.2.2.2.2.2.2.1,x.2.2.2.2.2.2.2.2.2.1,x.2.2.2.2.2.2.2.2.2.2.1,x.2.2.2.2.2.2.2.2.2.2.2.1,x.2.2.2.2.2.2.2.2.2.2.2.2.1,())).length:Nat):Int)=szO x from rfl]
    cases Sd cc (x.1,x.2.1,()) (szO x)with
    |none=>rfl
    |some r=>
     dsimp only
     rw[Al zq1]
     rfl)
  (by
   rw[List.take_length]
   unfold D0
   simp only[Af,Ag,Aa,Aj]
   rw[Bq zq0,An])
 have e0:Jw (cap,l,()) (frames.take 0) cr=([],cr):=by rw[List.take_zero];rfl
 rw[e0]at e
 exact e
def SvW (S X:Bs) (os:List Bc) (ns:List Ay) (ok:Bool) (f:Aq):Prop:=
 (Fd X=true/\J6 os/\Id ns)/\(os.length<=200000000/\ns.length<=200000000/\Bo X<=8388608)/\((Cc S).length<=(Cc X).length/\C9 (Ft S)<=C9 (Ft X))/\
 ((ok=false\/f.1≠3\/C9 (Ft S)=S.2.2.2.2.1)->(Cc X).length=(Cc S).length/\C9 (Ft X)=C9 (Ft S))/\(ok=true->f.1=1->Ft X=Ft S/\os.length<=1)/\
 Gf (J1 X)=Gf (J1 S)+J7 (Ft X) os
theorem Ag9 {S S0 X:Bs} {os:List Bc} {ns:List Ay} {fin init ok:Bool} {f:Aq} (h:Mid S0 X os ns fin init) (hn:Bo S0<=4000000) (e1:Ft S0=Ft S) (e2:Gf (J1 S0)=Gf (J1 S)) (hf:ok=false\/f.1≠3->fin=false) (hi:ok=true->f.1=1->init=true)
  (g1:List YBs) (g2 g3:List YB) (g4 g5:Int) (g6:List Ak) (g7:List Ao):
  Tot (fun r:Bs×((List Bc)×Unit)×((List Ay)×Unit)=>SvW S r.1 r.2.1.1 r.2.2.1 ok f) (ob (Ax D0 (ns,([]:List Bc),os,(os.length:Int),(0:Int),g1,g2,g3,g4,g5,g6,g7,X.1,X.2.1,X.2.2.1,X.2.2.2.1,X.2.2.2.2.1,X.2.2.2.2.2.1,X.2.2.2.2.2.2.1,())) fun o12=>
   some ((o12.2.2.2.2.2.2.2.2.2.1,o12.2.2.2.2.2.2.2.2.2.2.1,o12.2.2.2.2.2.2.2.2.2.2.2.1,o12.2.2.2.2.2.2.2.2.2.2.2.2.1,o12.2.2.2.2.2.2.2.2.2.2.2.2.2.1,o12.2.2.2.2.2.2.2.2.2.2.2.2.2.2.1,o12.2.2.2.2.2.2.2.2.2.2.2.2.2.2.2.1,()),(o12.2.1,()),(o12.1,()))):=by
 obtain⟨⟨m1,m2,m2'⟩,⟨m3,m4⟩,m5,⟨m6,_,m7⟩,m8,m9,m10⟩:=h
 obtain⟨a1,a2,a3,a4,a5,a6,a7⟩:=Es.1 m1
 have n2:Bo X=X.1.length+Bu Ey X.1+X.2.1.length+X.2.2.1.length+(Cc X).length+Bu A0 (Cc X)+(J1 X).length:=rfl
 have hT:X.2.2.2.2.2.1.length<=4294967296:=by show(Cc X).length<=_;omega
 rw[Bpi ns os X.2.2.2.2.2.2.1 g1 g2 g3 g4 g5 g6 g7 X.1 X.2.1 X.2.2.1 X.2.2.2.1 X.2.2.2.2.1 X.2.2.2.2.2.1 a5 m3 m2 hT,Ae]
 obtain⟨s1,s2,s3,s4,s5⟩:=A07 (t:=(X.2.2.2.2.1,X.2.2.2.2.2.1,())) os ([],X.2.2.2.2.2.2.1) a5
 have s1:Ck (Jw (X.2.2.2.2.1,X.2.2.2.2.2.1,()) os X.2.2.2.2.2.2.1).2=true:=s1
 have s2:Gf (Jw (X.2.2.2.2.1,X.2.2.2.2.2.1,()) os X.2.2.2.2.2.2.1).2-J7 (X.2.2.2.2.1,X.2.2.2.2.2.1,()) (Jw (X.2.2.2.2.1,X.2.2.2.2.2.1,()) os X.2.2.2.2.2.2.1).1=Gf X.2.2.2.2.2.2.1-0:=s2
 have s3:(Jw (X.2.2.2.2.1,X.2.2.2.2.2.1,()) os X.2.2.2.2.2.2.1).2.length=X.2.2.2.2.2.2.1.length:=s3
 have s4:(Jw (X.2.2.2.2.1,X.2.2.2.2.2.1,()) os X.2.2.2.2.2.2.1).1.length<=0+os.length:=s4
 have s5: ∀x∈(Jw (X.2.2.2.2.1,X.2.2.2.2.2.1,()) os X.2.2.2.2.2.2.1).1,x∈([]:List Bc)\/x∈os:=s5
 generalize Jw (X.2.2.2.2.1,X.2.2.2.2.2.1,()) os X.2.2.2.2.2.2.1=p at s1 s2 s3 s4 s5
 obtain⟨ou,cc⟩:=p
 dsimp only at s1 s2 s3 s4 s5
 have hcr:J1 X=J1 S0:=m5
 have hl0:(Cc S0).length=(Cc S).length:=by
  have:(Ft S0).2.1=(Ft S).2.1:=by rw[e1]
  exact congrArg List.length this
 have hc0:S0.2.2.2.2.1=S.2.2.2.2.1:=by
  have:(Ft S0).1=(Ft S).1:=by rw[e1]
  exact this
 refine Ah ⟨⟨Es.2 ⟨a1,a2,a3,a4,s1,a6,a7⟩,fun o ho=>?_,m2'⟩,⟨by dsimp only;omega,m4,?_⟩,⟨?_,?_⟩,fun h=>?_,fun h1 h2=>?_,?_⟩
 .rcases s5 o ho with h|h
  .cases h
  .exact m2 o h
 .show X.1.length+Bu Ey X.1+X.2.1.length+X.2.2.1.length+(Cc X).length+Bu A0 (Cc X)+cc.length<=_
  have:cc.length=(J1 X).length:=s3
  omega
 .show(Cc S).length<=(Cc X).length;omega
 .show C9 (Ft S)<=C9 (Ft X);rw[<-e1];exact m7
 .obtain⟨k1,k2⟩:=m8 (by
   rcases h with h|h|h
   .exact .inl (hf (.inl h))
   .exact .inl (hf (.inr h))
   .exact .inr (by rw[e1,hc0];exact h))
  exact⟨k1.trans hl0,k2.trans (by rw[e1])⟩
 .obtain⟨k1,k2⟩:=m9 (hi h1 h2)
  exact⟨k1.trans e1,by dsimp only;omega⟩
 .show Gf cc=Gf (J1 S)+J7 (X.2.2.2.2.1,X.2.2.2.2.2.1,()) ou
  have:Gf X.2.2.2.2.2.2.1=Gf (J1 S):=by rw[<-e2,<-hcr];rfl
  omega
theorem Bpj (S:Bs) (n:YI) (a:A7) (b:YBs) (hs:Fd S=true) (hn:Bo S<=3000000) (hb:WL b) (hw: ∀x∈Cc S,wfB (Cm x).2.1):Tot (fun p=>N6 b=some p/\Tot (fun r=>SvW S r.1 r.2.1.1 r.2.2.1 p.2.1 p.1) (Z7 S n a b)) (N6 b):=by
 obtain⟨⟨f,ok,⟨⟩⟩,hg,hp⟩:=Bgr b hb
 refine⟨_,hg,hg,?_⟩
 dsimp only
 obtain⟨a1,a2,a3,a4,a5,a6,a7⟩:=Es.1 hs
 have base:Tot (fun r:Bs×((List Bc)×Unit)×((List Ay)×Unit)=>SvW S r.1 r.2.1.1 r.2.2.1 ok f) (some (S,(([]:List Bc),()),(([]:List Ay),()))):=
  Ah ⟨⟨hs,fun _ h=>(by cases h),fun _ h=>(by cases h)⟩,⟨by simp,by simp,by dsimp only;omega⟩,⟨Nat.le_refl _,Int.le_refl _⟩,fun _=>⟨rfl,rfl⟩,fun _ _=>⟨rfl,by simp⟩,by simp[J7]⟩
 unfold Z7 Tb
 simp only[Af,Ag,Aa,Aj]
 rw[Bc3 S zq0,Ae,A3y S zq0,Ae,Cj,Ae,Iq,Ae]
 refine Am (fun _=>base) (fun _=>Am (fun _=>base) (fun ht=>Am (fun _=>base) (fun ha=>?_)))
 have ht:inR n.1 0 1000000=true:=by simpa using ht
 have ha:Cn a=true:=by simpa using ha
 have hc8:=(Du.1 a5).1
 rw[Bq7 _ _ _ zq0,Ae,hg,Ae]
 dsimp only
 obtain⟨gk,gs⟩:=Bdp (a:=a) (n:=(b.1.length:Int)) a5
 have gl:=Bne S.2.2.2.2.2.2.1 a (b.1.length:Int)
 generalize Vi S.2.2.2.2.2.2.1 a (b.1.length:Int)=cc at gk gs gl
 have hS0:Fd (S.1,S.2.1,S.2.2.1,S.2.2.2.1,S.2.2.2.2.1,S.2.2.2.2.2.1,cc,())=true:=Es.2 ⟨a1,a2,a3,a4,gk,a6,a7⟩
 have hN0:Bo (S.1,S.2.1,S.2.2.1,S.2.2.2.1,S.2.2.2.2.1,S.2.2.2.2.2.1,cc,())<=4000000:=by
  have e1:Bo (S.1,S.2.1,S.2.2.1,S.2.2.2.1,S.2.2.2.2.1,S.2.2.2.2.2.1,cc,())=S.1.length+Bu Ey S.1+S.2.1.length+S.2.2.1.length+(Cc S).length+Bu A0 (Cc S)+cc.length:=rfl
  have e2:Bo S=S.1.length+Bu Ey S.1+S.2.1.length+S.2.2.1.length+(Cc S).length+Bu A0 (Cc S)+(J1 S).length:=rfl
  omega
 refine Am (fun hk=>?_) (fun hk=>?_)
 .have hk:ok=false:=by simpa using hk
  exact Ag9 (S:=S) (ok:=ok) (f:=f) (fin:=false) (init:=false) (Mid.none hS0) hN0 rfl gs (fun _=>rfl) (fun h=>by rw[hk]at h;cases h) _ _ _ _ _ _ _
 have hk:ok=true:=by simpa using hk
 obtain⟨p1,p2,p3,p4⟩:=hp hk
 refine Am (fun h1=>?_) (fun h1=>?_)
 .have h1:f.1=1:=by simpa using h1
  refine Ad (Bpf _ n a f hS0 hN0 ha ht p1 h1) (fun r hr=>?_)
  exact Ag9 (S:=S) (ok:=ok) (f:=f) hr hN0 rfl gs (fun _=>rfl) (fun _ _=>rfl) _ _ _ _ _ _ _
 have h1:f.1≠1:=by simpa using h1
 refine Am (fun h3=>?_) (fun h3=>?_)
 .have h3:f.1=3:=by simpa using h3
  refine Ad (Bq9 _ n a f hS0 hN0) (fun r hr=>?_)
  exact Ag9 (S:=S) (ok:=ok) (f:=f) hr hN0 rfl gs (fun h=>by rcases h with h|h;(rw[hk]at h;cases h);exact(h h3).elim) (fun _ h=>(h1 h).elim) _ _ _ _ _ _ _
 have h3:f.1≠3:=by simpa using h3
 rw[Aaf,Ae]
 refine Am (fun hse=>?_) (fun _=>?_)
 .refine Ad (Bph _ n a f hS0 hN0 ha ht p1 hse p2 hw) (fun r hr=>?_)
  exact Ag9 (S:=S) (ok:=ok) (f:=f) hr hN0 rfl gs (fun _=>rfl) (fun _ h=>(h1 h).elim) _ _ _ _ _ _ _
 .exact Ag9 (S:=S) (ok:=ok) (f:=f) (fin:=false) (init:=false) (Mid.none hS0) hN0 rfl gs (fun _=>rfl) (fun _ h=>(h1 h).elim) _ _ _ _ _ _ _
theorem Bni (a:YBs) (hw: ∀r,K5 a=some r->wfB r.2.2.2.1):Ayt a=some (true,()):=by
 unfold Ayt Uk
 simp only[Ag,Af,Aa]
 rw[show Bha a=some (decide ((a.1.length:Int)>(1048576:Int)),())from rfl,Ae]
 by_cases hb:(a.1.length:Int)>1048576
 .rw[Al hb,A9]
 rw[Bq hb,An]
 obtain⟨⟨s,n,ad,b⟩,e,⟨h1,ho⟩,hbl⟩:=A6h a zq0
 have hwb:wfB b.1:=hw _ e
 dsimp only at h1 ho hbl
 have hN:=h1.need
 rw[e,Ae]
 obtain⟨⟨f,ok,⟨⟩⟩,g1,_,⟨X,⟨os,⟨⟩⟩,⟨ns,⟨⟩⟩⟩,g3,⟨S1,_,_⟩,⟨_,_,S2⟩,⟨S3,S4⟩,S5,S6,_⟩:=Bpj s n ad b ho zq0 ⟨hwb,by omega⟩ (fun x hx=>(h1.2.2.2.1.2 x hx).2.2)
 dsimp only at g3 S1 S2 S3 S4 S5 S6
 have lX:X.2.2.2.2.2.1.length<=Bo X:=by simp only[Bo];omega
 have lS:s.2.2.2.2.2.1.length<=Bo s:=by simp only[Bo];omega
 have S3':s.2.2.2.2.2.1.length<=X.2.2.2.2.2.1.length:=S3
 have S4':C9 (s.2.2.2.2.1,s.2.2.2.2.2.1,())<=C9 (X.2.2.2.2.1,X.2.2.2.2.2.1,()):=S4
 have S5':(ok=false\/f.1≠3\/C9 (s.2.2.2.2.1,s.2.2.2.2.2.1,())=s.2.2.2.2.1)->X.2.2.2.2.2.1.length=s.2.2.2.2.2.1.length/\C9 (X.2.2.2.2.1,X.2.2.2.2.2.1,())=C9 (s.2.2.2.2.1,s.2.2.2.2.2.1,()):=S5
 have S6':ok=true->f.1=1->(X.2.2.2.2.1,X.2.2.2.2.2.1,())=(s.2.2.2.2.1,s.2.2.2.2.2.1,())/\os.length<=1:=S6
 have tl:Cd (s.2.2.2.2.1,s.2.2.2.2.2.1,())<=4294967296:=by simp only[Cd];simp only[Bo]at hN;omega
 rw[g3,Ae,g1,Ae,A3y X zq0,Ae,S1]
 dsimp only
 rw[Bq zq0,Au7 (X.2.2.2.2.1,X.2.2.2.2.2.1,()) zq2,Au7 (s.2.2.2.2.1,s.2.2.2.2.2.1,()) zq2]
 simp only[Ae,Bool.not_true,An]
 rw[Bq zq0,An]
 have fin:br (!ok) (some (true,())) (br (f.1 != (1:Int)) (some (true,())) (ob (Nf (X.2.2.2.2.1,X.2.2.2.2.2.1,()) (s.2.2.2.2.1,s.2.2.2.2.2.1,())) fun r10=>br r10.1 (some ((decide ((os.length:Int)<=(1:Int))),())) (some (false,()))))=some (true,()):=by
  cases ok with
  |false=>rfl
  |true=>
   simp only[Bool.not_true,An]
   by_cases hf:f.1=1
   .obtain⟨k1,k2⟩:=S6' rfl hf
    rw[C6 (by simp[hf]),k1,Bdm _ tl,Ae,Al zq0];rfl
   .rw[Ei (by simpa using hf)]
 have same:(ok=false\/f.1≠3\/C9 (s.2.2.2.2.1,s.2.2.2.2.2.1,())=s.2.2.2.2.1)-> ∀(z:Option (Bool×Unit)),br ((X.2.2.2.2.2.1.length:Int) != (s.2.2.2.2.2.1.length:Int)) (some (false,())) (br (C9 (X.2.2.2.2.1,X.2.2.2.2.2.1,()) != C9 (s.2.2.2.2.1,s.2.2.2.2.2.1,())) (some (false,())) z)=z:=fun h z=>by
  obtain⟨k1,k2⟩:=S5' h
  rw[C6 (by simp[k1]),C6 (by simp[k2])]
 rcases Bool.eq_false_or_eq_true ok with hk|hk
 .rw[C6 (by simp[hk])]
  by_cases h3:f.1=3
  .rw[C6 (by simp[h3])]
   by_cases hl:C9 (s.2.2.2.2.1,s.2.2.2.2.2.1,())=s.2.2.2.2.1
   .rw[Ei (by simpa using hl),same (.inr (.inr hl))]
    exact fin
   .rw[C6 (by simpa using hl)]
    exact fin
  .rw[Ei (by simpa using h3),same (.inr (.inl h3))]
   exact fin
 .rw[Ei (by simp[hk]),same (.inl hk)]
  exact fin
end
end Go.Proofs.YtnbbbaplphcebaaGreat

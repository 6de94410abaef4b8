/-
  That the program and the reference answer alike, in plain terms, and that the laws answer true.
-/
import Derived.Test.YtnbbbaplphcebaaGreatG5
namespace Go.Proofs.YtnbbbaplphcebaaGreat
open Go.RowKit
set_option linter.unusedVariables false
set_option linter.unusedSimpArgs false
set_option maxRecDepth 100000
set_option maxHeartbeats 8000000
noncomputable section
def Bkb (l:List Am) (a:A6):Int:=
 if Cg l=true then(if C5 l a<0 then 0 else match l[(C5 l a).toNat]? with|some x=>3*x.2.2.1-x.2.2.2.1|none=>0)else 0
theorem Bq3 (l:List Am) (a:A6) (h:l.length<=1000):Kt (l,()) a=some (Bkb l a,()):=by
 unfold Kt Abf Bkb
 simp only[Af,Ag,Aa]
 rw[Xv l a zq0,Ae,Uv l zq0,Ae]
 cases e1:Cg l with
 |false=>rfl
 |true=>
  simp only[Bool.not_true,Ao]
  by_cases hneg:C5 l a<0
  .rw[Al hneg,if_pos hneg];rfl
  .obtain⟨x,hx,hi⟩:=Aet (l:=l) (a:=a) zq0
   obtain⟨_,q2,_⟩:=Dd.1 e1
   obtain⟨_,g2,g3⟩:=q2 x (List.mem_of_getElem? hx)
   rw[Bp hneg,Ao,hi,if_neg hneg,hx]
   simp only[Ae]
   rw[w64 (n:=3*x.2.2.1) zq0,w64 zq0]
   rfl
theorem Bq4 (l:List Am) (a:A6) (n:YI) (h:l.length<=1000):A0o (l,()) a n=some (Vj l a n.1,()):=by
 unfold A0o Az3 Vj
 simp only[Af,Ag,Aa,Aj]
 rw[Adc l zq0,Ae,Uv l zq0,Ae,Hs,Ae,Cd,Ae,Xv l a zq0,Ae]
 by_cases hc:Cg l=true/\Ck a=true/\inR n.1 0 1000000=true
 .obtain⟨c1,c2,c3⟩:=hc
  have c4:=Bj.1 c3
  rw[if_pos ⟨c1,c2,c3⟩,c1,c2,c3]
  simp only[Bool.not_true,Ao]
  by_cases hneg:C5 l a<0
  .rw[if_pos hneg,Bp zq0,Ao]
   have h8':=(Dd.1 c1).1
   by_cases h8:l.length=8
   .rw[if_pos h8,Bp zq0];rfl
   .rw[if_neg h8,Al zq0,A9,Al zq1,Ba]
  .obtain⟨x,hx,hi⟩:=Aet (l:=l) (a:=a) zq0
   obtain⟨_,q2,_⟩:=Dd.1 c1
   obtain⟨_,g2,_⟩:=q2 x (List.mem_of_getElem? hx)
   rw[if_neg hneg,Al zq0,A9,hi,hx]
   simp only[Ae]
   rw[w64 zq0]
 .rw[if_neg hc]
  cases e1:Cg l with
  |false=>rfl
  |true=>
   cases e2:Ck a with
   |false=>rfl
   |true=>
    cases e3:inR n.1 0 1000000 with
    |false=>rfl
    |true=>exact(hc ⟨e1,e2,e3⟩).elim
theorem Bo7 (l:List Am) (a:A6) (n:YI) (h:l.length<=1000):Au1 (l,()) a n=some (match Uz l a n.1 with|some r=>((r,()),(true,()))|none=>((l,()),(false,()))):=by
 unfold Au1 Auo
 simp only[Af,Ag,Aa,Aj]
 rw[Adc l zq0,Ae,Xv l a zq0,Ae,Uv l zq0,Ae,Bq3 l a h,Ae,Cd,Ae]
 unfold Uz Bkb
 cases e1:Cg l with
 |false=>rw[if_neg zq3];rfl
 |true=>
  simp only[Bool.not_true,Ao]
  by_cases hneg:C5 l a<0
  .rw[Al hneg,A9,if_neg zq0]
  .obtain⟨x,hx,hi⟩:=Aet (l:=l) (a:=a) zq0
   obtain⟨_,q2,_⟩:=Dd.1 e1
   obtain⟨_,g2,g3⟩:=q2 x (List.mem_of_getElem? hx)
   simp only[true_and,if_true]
   rw[Bp hneg,Ao,if_neg hneg,if_pos (show 0<=C5 l a by omega),hx,hi]
   simp only[Ae]
   cases hn:inR n.1 0 (3*x.2.2.1-x.2.2.2.1)with
   |false=>rfl
   |true=>
    have:=Bj.1 hn
    rw[w64 zq0]
    rfl
theorem Bo8 (f:Ar) (h:Aq f<=536870912):Xs f=some (((Pd f).length:Int),()):=by
 unfold Xs Apn
 simp only[Ag,Aa]
 rw[A3t f h];rfl
def X8 (a:A6) (id:Int) (cn sn:List YB) (t:Int):List YB:=cat [(([((99:Int),())]++Fk a.1 4 4)++Fk a.2.1 2 2,()),([(IntKind.u8.wrap id,())],()),(cn,()),(sn,()),(([]:List YB)++Fk t 4 4,())]
theorem Tr {a:A6} {id:Int} {cn sn:List YB} {t:Int} (h1:cn.length=12) (h2:sn.length=12):(X8 a id cn sn t).length=36:=by
 unfold X8
 simp[cat,Gd,h1,h2]
theorem A06 (a:A6) (id:Int) (cn sn:List YB) (t:Int) (ha:Ck a=true) (hi:inR id 1 9=true) (h1:cn.length=12) (h2:sn.length=12) (ht:inR t 0 1000000=true):Ry a (id,()) (cn,()) (sn,()) (t,())=some (X8 a id cn sn t,()):=by
 unfold Ry Afz Ayw Aj3
 simp only[Af,Ag,Aa,Aj,Hs,Cd,Hx,Ae,ha,h1,h2,hi,ht,Bool.not_true,Ao]
 rw[show((((12:Nat):Int))==(12:Int))=true by decide]
 simp only[Bool.not_true,Ao]
 rw[Oc _ _ zq3]
 simp only[Ae]
 rw[Bqz _ _ (by simp[Gd])]
 simp only[Ae]
 rw[Oc _ _ zq3]
 simp only[Ae]
 rw[Ht _ (by have:=Tr (a:=a) (id:=id) (t:=t) h1 h2;unfold X8 at this;omega) zq3]
 rfl
theorem Bdk (a:A6) (id:Int) (cn sn:List YB) (t:Int) (ha:Ck a=true) (hi:inR id 1 9=true) (h1:cn.length=12) (h2:sn.length=12) (ht:inR t 0 1000000=true):N6 a (id,()) (cn,()) (sn,()) (t,())=some (X8 a id cn sn t,()):=by
 unfold N6 Wy Ayu Ajs
 simp only[Af,Ag,Aa,Aj,Iv,Cq,Ae,ha,h1,h2,hi,ht,Bool.not_true,Ao]
 rw[show((((12:Nat):Int)) != (12:Int))=false by decide]
 simp only[Bool.not_true,Ao]
 rw[Lb _ _ zq3]
 simp only[Ae]
 rw[Bq0 _ _ (by simp[Gd])]
 simp only[Ae]
 rw[Al (by simp[Gd]),Ba,Al (by simp[Gd,h1]),Ba,Al (by simp[Gd,h1,h2]),Ba,Lb _ _ (by simp[Gd,h1,h2])]
 simp only[Ae]
 unfold X8
 simp[cat]
def Avw (j:List YB) (a:A6) (id:Int) (cn sn:List YB) (t:Int):List YB:=T5 j (X8 a id cn sn t)
theorem A4a {j:List YB} {a:A6} {id:Int} {cn sn:List YB} {t:Int} (hj:j.length=32) (h1:cn.length=12) (h2:sn.length=12):(Avw j a id cn sn t).length=16:=by
 have hb:=Tr (a:=a) (id:=id) (t:=t) h1 h2
 have h:=Od j (X8 a id cn sn t) zq0 zq0
 unfold Avw T5
 rw[List.length_take];omega
theorem Bdl (j:List YB) (a:A6) (id:Int) (cn sn:List YB) (t:Int) (hj:j.length=32) (ha:Ck a=true) (hi:inR id 1 9=true) (h1:cn.length=12) (h2:sn.length=12) (ht:inR t 0 1000000=true):Ap2 (j,()) a (id,()) (cn,()) (sn,()) (t,())=some (Avw j a id cn sn t,()):=by
 have hb:=Tr (a:=a) (id:=id) (t:=t) h1 h2
 unfold Ap2 A0c
 simp only[Af,Ag,Aa,Aj]
 rw[A06 a id cn sn t ha hi h1 h2 ht,Ae,A58,Ae]
 simp only[hj,hb]
 rw[show((((32:Nat):Int))==(32:Int))=true by decide,show((((36:Nat):Int))==(0:Int))=false by decide]
 simp only[Bool.not_true,Ao]
 rw[Baj,Ae];rfl
theorem Bo9 (j:List YB) (a:A6) (id:Int) (cn sn:List YB) (t:Int) (hj:j.length=32) (ha:Ck a=true) (hi:inR id 1 9=true) (h1:cn.length=12) (h2:sn.length=12) (ht:inR t 0 1000000=true):Zy (j,()) a (id,()) (cn,()) (sn,()) (t,())=some (Avw j a id cn sn t,()):=by
 have hb:=Tr (a:=a) (id:=id) (t:=t) h1 h2
 unfold Zy An4
 simp only[Af,Ag,Aa,Aj]
 rw[Bdk a id cn sn t ha hi h1 h2 ht,Ae,Awr,Ae]
 simp only[hj,hb]
 rw[show((((32:Nat):Int))==(32:Int))=true by decide,show((((36:Nat):Int))==(0:Int))=false by decide]
 simp only[Bool.not_true,Ao]
 rw[Bak,Ae];rfl
def Bdm (n t:Int):Bool:=inR n 0 1000000 && (inR t 0 1000000 && inR (IntKind.i64.wrap (n-t)) 0 10)
theorem Bq5 (n t:YI):Aux n t=some (Bdm n.1 t.1,()):=by
 unfold Aux Auc Bdm
 simp only[Af,Ag,Aa,Cd,Ae]
 cases inR n.1 0 1000000<;>cases inR t.1 0 1000000<;>rfl
theorem Aiu {f:Ar} (h:B7 f=true) (hk:f.1=3):inR f.2.1 1 9=true/\f.2.2.1.length=12/\f.2.2.2.1.length=12/\inR f.2.2.2.2.1 0 1000000=true/\f.2.2.2.2.2.1.length=16/\f.2.2.2.2.2.2.1.length=16:=by
 unfold B7 at h
 simp only[hk,show inR (3:Int) 4 8=false by decide,show((3:Int)==1)=false by decide,show((3:Int)==2)=false by decide,cond_false,Bool.and_eq_true,beq_iff_eq]at h
 obtain⟨h1,h2,h3,h4,h5,h6,h7,h8,h9,h10,h11⟩:=h
 exact⟨h7,by omega,by omega,h9,by omega,by omega⟩
theorem Bkc {f:Ar} (h:B7 f=true) (hk:f.1=1):inR f.2.1 1 9=true/\f.2.2.1.length=12:=by
 unfold B7 at h
 simp only[hk,show inR (1:Int) 4 8=false by decide,show((1:Int)==1)=true by decide,cond_false,cond_true,Bool.and_eq_true,beq_iff_eq]at h
 obtain⟨h1,h2,h3,h4,h5,h6,h7⟩:=h
 exact⟨h6,by omega⟩
theorem Bsc (a b:List YB) (h:a.length<=4294967296): ∃r,Qq (a,()) (b,())=some (r,()):=by
 obtain⟨r,r1,_⟩:=A32 a b h
 exact⟨r,r1⟩
theorem Bpa (j:List YB) (n:YI) (a:A6) (f:Ar): ∃k,Auy (j,()) n a f=some (k,())/\(k=0->j.length=32/\inR n.1 0 1000000=true/\Ck a=true/\f.1=3/\B7 f=true):=by
 unfold Auy Aud
 simp only[Af,Ag,Aa,Aj,A58,Cd,Hs,Kv,Bq5,Ae]
 cases e1:((j.length:Int)==32)with
 |false=>exact⟨1,rfl,fun h=>by cases h⟩
 |true=>
 cases e2:inR n.1 0 1000000 with
 |false=>exact⟨1,rfl,fun h=>by cases h⟩
 |true=>
 cases e3:Ck a with
 |false=>exact⟨1,rfl,fun h=>by cases h⟩
 |true=>
 cases e4:(f.1 != (3:Int))with
 |true=>exact⟨1,rfl,fun h=>by cases h⟩
 |false=>
 cases e5:B7 f with
 |false=>exact⟨1,rfl,fun h=>by cases h⟩
 |true=>
 cases e6:Bdm n.1 f.2.2.2.2.1 with
 |false=>exact⟨9,rfl,fun h=>by cases h⟩
 |true=>
 have hj:j.length=32:=by simp only[beq_iff_eq]at e1;omega
 have hk:f.1=3:=by simpa using e4
 obtain⟨c1,c2,c3,c4,c5,c6⟩:=Aiu e5 hk
 rw[Bdl j a f.2.1 f.2.2.1 f.2.2.2.1 f.2.2.2.2.1 hj e3 c1 c2 c3 c4]
 simp only[Bool.not_true,Ao,Ae]
 obtain⟨r,r1⟩:=Bsc f.2.2.2.2.2.1 (Avw j a f.2.1 f.2.2.1 f.2.2.2.1 f.2.2.2.2.1) zq0
 rw[r1]
 simp only[Ae]
 cases r with
 |false=>exact⟨2,rfl,fun h=>by cases h⟩
 |true=>exact⟨0,rfl,fun _=>⟨hj,trivial,trivial,hk,trivial⟩⟩
theorem Bkd (p:List YB) (f:Ar): ∃k,Akn (p,()) f=some (k,()):=by
 unfold Akn Aj6
 simp only[Af,Ag,Aa,Aj,Kv,Bhm,Ae]
 cases e1:(f.1==(3:Int))with
 |false=>exact⟨false,rfl⟩
 |true=>
 cases e5:B7 f with
 |false=>exact⟨false,rfl⟩
 |true=>
 obtain⟨c1,c2,c3,c4,c5,c6⟩:=Aiu e5 (by simpa using e1)
 obtain⟨r,r1⟩:=Bsc f.2.2.2.2.2.2.1 (Ux p f.2.1 f.2.2.1 f.2.2.2.1 f.2.2.2.2.1 f.2.2.2.2.2.1) zq0
 rw[r1]
 exact⟨r,rfl⟩
theorem A8q {s:Ak} (h:SP 40000 s):s.2.1.length<=40000/\s.2.2.1.length<=40000/\A7 (Cm s)<=40000/\Bd (Bm s)<=40000:=by
 have:=Aee s
 have:=h.1
 exact⟨by omega,by omega,by omega,by omega⟩
theorem Bae {b:List YB} {a0:Aw} (s:Ak) (hc:Bv b a0) (h:SP 40000 s):Tot (fun r=>(Aq r.2.1<=90000/\wfB r.2.1.2.2.2.1)/\Bv b r.2.2) (Ago a0 s):=by
 obtain⟨k1,k2,k3,k4⟩:=A8q h
 have fin: ∀(c:Aw) (F:Ar) (X:A6),Aq F<=90000/\wfB F.2.2.2.1->Bv b c->c.1=a0.1->
   Tot (fun r:A6×Ar×Aw=>(Aq r.2.1<=90000/\wfB r.2.1.2.2.2.1)/\Bv b r.2.2) (ob (Av c ((12:Int),())) fun r=>br r.1.1 (ob (Gl (a0.1,r.2.2.1,r.2.2.2.1,())) fun q=>some (q.1,F,(a0.1,q.2.2.1,q.2.2.2.1,()))) (some (X,F,(a0.1,r.2.2.1,r.2.2.2.1,())))):=fun c F X hF hcc e=>by
  refine Ad (Az _ hcc zq7) (fun r hr=>?_)
  refine An (fun _=>?_) (fun _=>Ah ⟨hF,Ab hc hr⟩)
  exact Ad (Bmv (Ab hc hr)) (fun q hq=>Ah ⟨hF,Ab hc hq⟩)
 have sli: ∀(k:YBs) (r ep seq kind:YI) (p:YBs),p.1.length<=40000->Tot (fun q=>Aq q.1<=90000/\wfB q.1.2.2.2.1) (B0 k r (s.2.2.1,()) ep seq kind p):=fun k r ep seq kind p hp=>
  (Cu k r (s.2.2.1,()) ep seq kind p zq2 zq0).mono (fun q hq=>⟨Nat.le_trans hq.1 zq2,hq.2 h.2.1⟩)
 have hfr:=fun(c:Aw) (hcc:Bv b c)=>(Bdd (Cm s) hcc zq0 h.2.2).mono (fun r hr=>(⟨⟨Nat.le_trans hr.1.1 zq0,hr.1.2⟩,hr.2⟩:(Aq r.1<=90000/\wfB r.1.2.2.2.1)/\Bv b r.2))
 unfold Ago Aff
 simp only[Af,Ag,Aa,Aj]
 refine Ad (Az _ hc zq7) (fun r1 h1c=>?_)
 refine An (fun _=>Ad (Bf _ (Ab hc h1c) zq7) (fun r2 ⟨_,h2c⟩=>Ad (Pg _) (fun r3 _=>Ad (hfr _ (Ab hc h2c)) (fun r4 ⟨h4,h4c⟩=>?_)))) (fun _=>Ad (hfr _ (Ab hc h1c)) (fun r4 ⟨h4,h4c⟩=>?_))
 all_goals
  refine Ad (Bf _ (Ab hc h4c) zq7) (fun r5 ⟨_,h5c⟩=>?_)
  refine An (fun _=>?_) (fun _=>An (fun _=>An (fun _=>?_) (fun _=>?_)) (fun _=>fin _ _ _ h4 (Ab hc h5c) rfl))
  .refine An (fun hb=>?_) (fun _=>fin _ _ _ h4 (Ab hc h5c) rfl)
   have hb:=of_decide_eq_true hb
   have hl:(Bm s).2.2.1.length<=40000:=Nat.le_trans (by simp only[Bd];omega) k4
   refine Ad (Bf _ (Ab hc h5c) (by dsimp only at hl ⊢;omega)) (fun r6 ⟨⟨h6,h6b⟩,h6c⟩=>?_)
   dsimp only at h6b
   refine Ad (E7 (P:=fun e=>e.2.2.1.length<=40000) h6 zq0 (fun x hx=>?_)) (fun e he=>?_)
   .have:=Ag8 (f:=Ga) hx
    have k4':(Bm s).2.2.1.length+Bu Ga (Bm s).2.2.1<=40000:=k4
    simp only[Ga]at this
    dsimp only at k4'
    omega
   .exact Ad (sli _ _ _ _ _ _ he) (fun q hq=>fin _ _ _ hq (Ab hc h6c) rfl)
  .refine Ad (Az _ (Ab hc h5c) zq7) (fun r6 h6c=>?_)
   refine An (fun _=>?_) (fun _=>?_)
   .exact Ad (Ade _) (fun r7 h7=>Ad (sli _ _ _ _ _ _ zq0) (fun q hq=>fin _ _ _ hq (Ab hc h6c) rfl))
   .exact Ad (Ade _) (fun r7 h7=>Ad (sli _ _ _ _ _ _ zq0) (fun q hq=>fin _ _ _ hq (Ab hc h6c) rfl))
  .exact Ad (Ade _) (fun r7 h7=>Ad (sli _ _ _ _ _ _ zq0) (fun q hq=>fin _ _ _ hq (Ab hc h5c) rfl))
theorem Baf (p:YBs) (id:YI) (f:Ar) (h:Aq f<=200000):Tot (fun r=>Aq r.1<=Aq f+100/\(wfB f.2.2.2.1->wfB r.1.2.2.2.1)) (He p id f):=by
 unfold He Rg
 simp only[Af,Ag,Aa,Aj]
 rw[Jd,Ae]
 refine An (fun _=>Ah ⟨by simp[Aq],fun _=>Gw⟩) (fun _=>?_)
 refine An (fun _=>Ah ⟨by simp[Aq],fun _=>Gw⟩) (fun _=>?_)
 have hp:=A8l p.1 id.1 f.2.2.1 f.2.2.2.1 f.2.2.2.2.1 f.2.2.2.2.2.1
 rw[show Ab7 p id (f.2.2.1,()) (f.2.2.2.1,()) (f.2.2.2.2.1,()) (f.2.2.2.2.2.1,())=_ from A6b p.1 id.1 _ _ _ _,Ae]
 refine An (fun _=>Ah ⟨by simp[Aq],fun _=>Gw⟩) (fun _=>?_)
 rw[Aqu _ zq0,Ae]
 simp only[Aq]at h
 exact Ah ⟨by simp only[Aq,List.length_nil];omega,fun h=>h⟩
theorem Bpb (j:YBs) (a:A6) (id:YI) (cn sn:YBs) (t:YI):Tot (fun r=>r.1.length<=16) (Zy j a id cn sn t):=by
 obtain⟨j,⟨⟩⟩:=j;obtain⟨id,⟨⟩⟩:=id;obtain⟨cn,⟨⟩⟩:=cn;obtain⟨sn,⟨⟩⟩:=sn;obtain⟨t,⟨⟩⟩:=t
 by_cases hg:j.length=32/\Ck a=true/\inR id 1 9=true/\cn.length=12/\sn.length=12/\inR t 0 1000000=true
 .obtain⟨g1,g2,g3,g4,g5,g6⟩:=hg
  rw[Bo9 j a id cn sn t g1 g2 g3 g4 g5 g6]
  exact Ah (by dsimp only;rw[A4a g1 g4 g5];exact Nat.le_refl _)
 .unfold Zy An4
  simp only[Af,Ag,Aa,Aj]
  have nil:N6 a (id,()) (cn,()) (sn,()) (t,())=some (([]:List YB),())\/((j.length:Int)==32)=false/\Tot (fun _=>True) (N6 a (id,()) (cn,()) (sn,()) (t,())):=by
   by_cases hb:Ck a=true/\inR id 1 9=true/\cn.length=12/\sn.length=12/\inR t 0 1000000=true
   .obtain⟨g2,g3,g4,g5,g6⟩:=hb
    refine .inr ⟨?_,by rw[Bdk a id cn sn t g2 g3 g4 g5 g6];exact Ah trivial⟩
    cases e:((j.length:Int)==32)with
    |false=>rfl
    |true=>exact(hg ⟨by simp only[beq_iff_eq]at e;omega,g2,g3,g4,g5,g6⟩).elim
   .left
    unfold N6 Wy
    simp only[Af,Ag,Aa,Aj,Iv,Cq,Ae]
    cases e1:Ck a with
    |false=>rfl
    |true=>
    cases e2:inR id 1 9 with
    |false=>rfl
    |true=>
    cases e3:((cn.length:Int) != 12)with
    |true=>rfl
    |false=>
    cases e4:((sn.length:Int) != 12)with
    |true=>rfl
    |false=>
    cases e5:inR t 0 1000000 with
    |false=>rfl
    |true=>
     have e3:(cn.length:Int)=12:=by simpa using e3
     have e4:(sn.length:Int)=12:=by simpa using e4
     exact(hb ⟨e1,e2,by omega,by omega,e5⟩).elim
  rcases nil with n1|⟨n1,r,n2,_⟩
  .rw[n1,Ae,Awr,Ae]
   refine An (fun _=>Ah zq3) (fun _=>?_)
   exact Ah zq3
  .rw[n2,Ae,Awr,Ae]
   dsimp only
   rw[n1]
   exact Ah zq3
theorem Ag9 (f:Ar):(Pd f).length<=300:=by
 unfold Pd
 cases h:B7 f with
 |false=>simp
 |true=>
  have hn:=Tq h
  simp only[Aq]at hn
  simp only[Bool.not_true,cond_false]
  cases f.1==1<;>cases f.1==2<;>cases f.1==3<;>simp only[cond_true,cond_false,List.length_cons,List.length_append,List.length_replicate,Gd]<;>omega
theorem Avx (f:Ar) (h:Aq f<=536870912):Tot (fun r=>r.1.length<=300) (Lj f):=by
 rw[Bi6 f h];exact Ah (Ag9 f)
theorem w1m {x:Int} (h:0<=x/\x<=1000):IntKind.i64.wrap (IntKind.i64.wrap (1+x)-1)=x:=by
 rw[w64 (n:=1+x) zq0,w64 zq0];omega
theorem w1p {x:Int} (h:0<=x/\x<=1000):IntKind.i64.wrap (1+x)=1+x:=w64 zq0
def Bke (a0:Aw) (r2:A6) (n:YI) (c:Aw) (f:YBs):Option (YI×A6×YBs×Aw):=ob (Av c ((3:Int),())) fun r33=>br r33.1.1 (ob (Kh (a0.1,r33.2.2.1,r33.2.2.2.1,()) f) fun r34=>ob (Cb (a0.1,r34.2.2.1,r34.2.2.2.1,()) ([((0:Int),()),((0:Int),()),((0:Int),()),((10:Int),()),((11:Int),())],())) fun r35=>some (((IntKind.i64.wrap (n.1+r35.1.1)),()),r2,r34.1,(a0.1,r35.2.2.1,r35.2.2.2.1,()))) (ob (Cb (a0.1,r33.2.2.1,r33.2.2.2.1,()) ([((0:Int),()),((0:Int),()),((0:Int),()),((10:Int),()),((11:Int),())],())) fun r36=>some (((IntKind.i64.wrap (n.1+r36.1.1)),()),r2,f,(a0.1,r36.2.2.1,r36.2.2.2.1,())))
theorem Bdn {b:List YB} {a0:Aw} (s:Bs) (hc:Bv b a0) (h:SvP s):Tot (fun r=>r.2.2.1.1.length<=1000/\Bv b r.2.2.2) (Agp a0 s):=by
 obtain⟨p1,p2,p3,p4,p5⟩:=h
 have hl:=p4.1
 dsimp only at hl
 have hps:=p1.1
 unfold Agp Afg
 try unfold A0n
 try unfold O9
 simp only[Af,Ag,Aa,Aj]
 have bel: ∀(n:Nat) (x:Int),0<=x->(x<(n:Int)\/x=0)->n<=1000->0<=x/\x<=1000:=fun n x h0 h1 h2=>by omega
 refine Ad (Bf _ hc zq7) (fun r1 ⟨_,h1c⟩=>Ad (Pg _) (fun r2 _=>Ad (Jk _ (Ab hc h1c) zq7) (fun r3 h3c=>Ad (Bf _ (Ab hc h3c) zq7) (fun r4 ⟨_,h4c⟩=>?_))))
 have fin: ∀(c:Aw) (n:YI) (f:YBs),Bv b c->c.1=a0.1->f.1.length<=300->Tot (fun r:YI×A6×YBs×Aw=>r.2.2.1.1.length<=1000/\Bv b r.2.2.2) (Bke a0 r2 n c f):=fun c n f hcc _ hf=>by
  unfold Bke
  refine Ad (Az _ hcc zq7) (fun r33 h33=>An (fun _=>?_) (fun _=>?_))
  .refine Ad (To _ (Ab hc h33) zq0) (fun r34 ⟨⟨h34,_⟩,h34c⟩=>Ad (Jk _ (Ab hc h34c) zq7) (fun r35 h35=>Ah ⟨by dsimp only;omega,Ab hc h35⟩))
  .exact Ad (Jk _ (Ab hc h33) zq7) (fun r35 h35=>Ah ⟨by dsimp only;omega,Ab hc h35⟩)
 have mk: ∀(e:YBs) (id:YI) (cn sn:List YB) (t:YI) (c:Aw) (n:YI),cn.length<=40000->sn.length<=40000->Bv b c->c.1=a0.1->Tot (fun r:YI×A6×YBs×Aw=>r.2.2.1.1.length<=1000/\Bv b r.2.2.2) (ob (Zy (s.2.1,()) r2 id (cn,()) (sn,()) t) fun r16=>ob (He e id ((2:Int),(0:Int),cn,sn,t.1,r16.1,([]:List YB),(0:Int),(0:Int),([]:List YB),([]:List YB),())) fun r17=>ob (Lj r17.1) fun f=>Bke a0 r2 n c f):=fun e id cn sn t c n hcn hsn hcc e1=>by
  refine Ad (Bpb _ _ _ _ _ _) (fun r16 h16=>Ad (Baf _ _ _ (by simp only[Aq,List.length_nil];omega)) (fun r17 ⟨h17,_⟩=>Ad (Avx _ ?_) (fun f hf=>fin c n f hcc e1 hf)))
  simp only[Aq,List.length_nil]at h17 ⊢
  omega
 have by12: ∀c,Bv b c->Tot (fun r=>r.1.1.length<=40000/\Bv b r.2) (Df c ((12:Int),())):=fun c hcc=>(C0 _ hcc zq7).mono fun r ⟨⟨h1,_⟩,h2⟩=>⟨by have h1:r.1.1.length=12:=h1;omega,h2⟩
 have byN: ∀c (n:YI),Bv b c->(0<=n.1/\(n.1<80\/n.1=0))->Tot (fun r=>r.1.1.length<=1000/\Bv b r.2) (Df c n):=fun c n hcc hn=>(C0 _ hcc zq0).mono fun r ⟨⟨h1,_⟩,h2⟩=>⟨by omega,h2⟩
 have sesI: ∀(x:Int),(0<=x/\(x<(s.2.2.2.2.2.1.length:Int)\/x=0))->decide ((s.2.2.2.2.2.1.length:Int)>(0:Int))=true->Tot (fun e=>e.2.1.length<=40000/\e.2.2.1.length<=40000/\SP 40000 e) (idx s.2.2.2.2.2.1 x):=fun x hx hp=>by
  have hp:=of_decide_eq_true hp
  refine E7 hx.1 zq0 (fun e he=>?_)
  have:=A8q (p4.2 e he)
  exact⟨this.1,this.2.1,p4.2 e he⟩
 have pskI: ∀(x:Int),(0<=x/\(x<3\/x=0))->decide (IntKind.i64.wrap (1+x)<=(s.1.length:Int))=true->Tot (fun _=>True) (idx s.1 (IntKind.i64.wrap (IntKind.i64.wrap (1+x)-1))):=fun x hx hp=>by
  have hp:=of_decide_eq_true hp
  rw[w1p zq0]at hp
  rw[w1m zq0]
  exact E7 hx.1 zq0 (fun _ _=>trivial)
 repeat' first
  |exact mk _ _ _ _ _ _ _ Ni Ni (by first|assumption|exact Ab hc Ni) rfl
  |refine Ad (Az (b:=b) _ (by first|assumption|exact Ab hc Ni) zq7) (fun r h=>?_)
  |refine Ad (by12 _ (by first|assumption|exact Ab hc Ni)) (fun r ⟨_,_⟩=>?_)
  |refine Ad (Bf (b:=b) _ (by first|assumption|exact Ab hc Ni) (by first|decide|(dsimp only;omega))) (fun r ⟨_,_⟩=>?_)
  |refine Ad (pskI _ Ni Ni) (fun _ _=>?_)
  |refine Ad (sesI _ Ni Ni) (fun e ⟨_,_,_⟩=>?_)
  |refine Ad (Bae (b:=b) _ (by first|assumption|exact Ab hc Ni) Ni) (fun r ⟨⟨_,_⟩,_⟩=>?_)
  |refine Ad (Jk (b:=b) _ (by first|assumption|exact Ab hc Ni) zq7) (fun r h=>?_)
  |refine Ad (Avx _ (by first|omega|(simp only[Aq,List.length_nil];omega))) (fun r h=>?_)
  |refine Ad (byN _ _ (by first|assumption|exact Ab hc Ni) Ni) (fun r ⟨_,_⟩=>?_)
  |refine An (fun _=>?_) (fun _=>?_)
  |exact Ah ⟨by dsimp only;omega,(by first|assumption|exact Ab hc Ni)⟩
theorem A6e (a0:YBs) (hl:a0.1.length<=1048576):Tot (fun r=>(SvP r.1/\Fg r.1=true)/\r.2.2.2.1.length<=1000) (K8 a0):=by
 unfold K8 S4
 simp only[Af,Ag,Aa,Aj]
 refine Ad (Bmt _ hl) (fun c hc=>Ad ((Bgg hc).both (Bgk hc)) (fun r2 ⟨⟨⟨g1,g2,g3,g4,g5⟩,g6⟩,g7,_⟩=>?_))
 have hs:SvP r2.1:=⟨⟨Nat.le_trans g1.1 zq7,g1.2⟩,g2,g3,g4.le zq7 zq7,g5⟩
 exact Ad (Bdn _ (Ab hc g6) hs) (fun r3 ⟨h3,_⟩=>Ah ⟨⟨hs,g7⟩,h3⟩)
theorem Aha: ∀ {l:List Ak} {i:Nat} {x y:Ak},l[i]? =some x->C4 y=C4 x->Fa (l.set i y)=Fa l
 |[],i,x,y,h,_=>by simp at h
 |a::r,0,x,y,h,e=>by
  simp at h;subst h
  simp only[List.set_cons_zero,Fa,List.countP_cons,e]
 |a::r,i+1,x,y,h,e=>by
  have:=Aha (l:=r) (i:=i) (x:=x) (y:=y) (by simpa using h) e
  simp only[List.set_cons_succ,Fa,List.countP_cons]at this ⊢
  omega
theorem Azc {E:Type} {f:E->Nat} {K:Nat}: ∀ {l:List E} {i:Nat} {x y:E},l[i]? =some x->f y<=f x+K->Bu f (l.set i y)<=Bu f l+K
 |[],i,x,y,h,_=>by simp at h
 |a::r,0,x,y,h,e=>by
  simp at h;subst h
  simp only[List.set_cons_zero,Bu];omega
 |a::r,i+1,x,y,h,e=>by
  have:=Azc (l:=r) (i:=i) (x:=x) (y:=y) (by simpa using h) e
  simp only[List.set_cons_succ,Bu];omega
theorem Bqe {t:Cj} {n:Int} {x y:Ak} (hn:Co t+A5 y<=1073741824) (ht:Hm t=true) (h0:0<=n) (hx:t.2.1[n.toNat]? =some x) (ho:Cs y=true) (hs:y.2.2.1=x.2.2.1) (hd:C4 y=C4 x):
  I3 t (n,()) y=some ((t.1,t.2.1.set n.toNat y,()),(true,()))/\Hm (t.1,t.2.1.set n.toNat y,())=true/\D0 (t.1,t.2.1.set n.toNat y,())=D0 t:=by
 have hl:t.2.1.length<=Co t:=by simp only[Co];omega
 have h1:=A8h zq0 ht hx ho hs (.inr hd)
 refine⟨Bjs t (n,()) y x hn ht h0 hx h1,h1,?_⟩
 rw[Kl _ zq1,Kl t zq0]
 rw[show Fa (t.1,t.2.1.set n.toNat y,()).2.1=Fa t.2.1 from Aha hx hd]
def Awt (b:List YB):Ax:=((14:Int),(0:Int),(0:Int),([]:List YB),([]:List YB),(0:Int),(0:Int),b,([]:List YB),(0:Int),(0:Int),(0:Int),())
theorem A4b (b:List YB) (h:b.length<=4294967296):N8 (b,())=some (Awt b):=by
 unfold N8 Af1
 simp only[Ag,Aa]
 rw[Ch _ h];rfl
theorem A4c {b:List YB} (h:b.length<=100):Ji (Awt b)=true:=by
 rw[Mz]
 simp only[Awt,List.length_nil]
 exact⟨by omega,by omega,by omega,by omega,by omega,by omega,.inl trivial,.inl trivial,h,.inl trivial,A34⟩
def J4 (s:Bs):List Am:=s.2.2.2.2.2.2.1
def Cc (s:Bs):List Ak:=s.2.2.2.2.2.1
def Mid (S X:Bs) (os:List Bc) (ns:List Ax) (fin init:Bool):Prop:=
 (Fg X=true/\Jl os/\H1 ns)/\(os.length<=200000000/\ns.length<=200000000)/\J4 X=J4 S/\((Cc S).length<=(Cc X).length/\(Cc X).length<=(Cc S).length+1/\D0 (Fw S)<=D0 (Fw X))/\
 ((fin=false\/D0 (Fw S)=S.2.2.2.2.1)->(Cc X).length=(Cc S).length/\D0 (Fw X)=D0 (Fw S))/\(init=true->Fw X=Fw S/\os.length<=1)/\Br X<=Br S+100000
theorem Mid.none {S:Bs} {fin init:Bool} (hs:Fg S=true):Mid S S [] [] fin init:=
 ⟨⟨hs,fun _ h=>(by cases h),fun _ h=>(by cases h)⟩,⟨by simp,by simp⟩,rfl,⟨Nat.le_refl _,by omega,Int.le_refl _⟩,fun _=>⟨rfl,rfl⟩,fun _=>⟨rfl,by simp⟩,by omega⟩
theorem Bpc (S:Bs) (n:YI) (a:A6) (f:Ar) (hs:Fg S=true) (hn:Br S<=4000000) (ha:Ck a=true) (ht:inR n.1 0 1000000=true) (hf:B7 f=true) (hk:f.1=1):Tot (fun r=>Mid S r.1 r.2.1.1 r.2.2.1 false true) (Agu S n a f):=by
 obtain⟨a1,a2,a3,a4,a5,a6,a7⟩:=Eh.1 hs
 obtain⟨i1,i2⟩:=Bkc hf hk
 have hcr:=(Dd.1 a5).1
 have base:Tot (fun r:Bs×((List Bc)×Unit)×((List Ax)×Unit)=>Mid S r.1 r.2.1.1 r.2.2.1 false true) (some (S,(([]:List Bc),()),(([]:List Ax),()))):=Ah (Mid.none hs)
 have hj:S.2.1.length=32:=by simp only[beq_iff_eq]at a2;omega
 have hsd:S.2.2.1.length<=32:=by
  unfold F0 at a3
  simp only[Bool.and_eq_true,Bj]at a3
  omega
 have hdN:0<=S.2.2.2.1/\S.2.2.2.1<=10000:=by
  unfold F0 at a3
  simp only[Bool.and_eq_true,Bj]at a3
  omega
 unfold Agu Af2
 simp only[Af,Ag,Aa,Aj]
 refine An (fun _=>base) (fun _=>?_)
 rw[Bcj S a _ zq0,Ae]
 refine An (fun _=>base) (fun _=>An (fun _=>base) (fun hN=>?_))
 have hN:=of_decide_eq_false hN
 have hroll:G5 (S.2.2.1,S.2.2.2.1,())=((S.2.2.1,S.2.2.2.1+1,()),Oe S.2.2.1 S.2.2.2.1):=by
  unfold G5;rw[if_pos ⟨a3,by dsimp only;omega⟩]
 have h12:=A8o a3
 rw[Bmf _ zq2,hroll,Ae]
 obtain⟨n,⟨⟩⟩:=n
 dsimp only at ht ⊢
 rw[Bdl S.2.1 a f.2.1 f.2.2.1 _ n hj ha i1 i2 h12 ht,Ae,Ch _ zq2,Ae,Ch _ zq2,Ae,A06 a f.2.1 f.2.2.1 _ n ha i1 i2 h12 ht,Ae]
 have hb:=Tr (a:=a) (id:=f.2.1) (t:=n) i2 h12
 have hm:=A4a (a:=a) (id:=f.2.1) (t:=n) hj i2 h12
 rw[Bmj _ _ zq0 zq0,Ae,A4b _ zq0,Ae]
 refine Ah ⟨⟨Eh.2 ⟨a1,a2,?_,a4,a5,a6,a7⟩,fun o ho=>?_,fun m hmm=>?_⟩,⟨by simp,by simp⟩,rfl,⟨Nat.le_refl _,by show S.2.2.2.2.2.1.length<=S.2.2.2.2.2.1.length+1;omega,Int.le_refl _⟩,fun _=>⟨rfl,rfl⟩,fun _=>⟨rfl,by simp⟩,?_⟩
 .unfold F0 at a3 ⊢
  simp only[Bool.and_eq_true,Bj]at a3 ⊢
  exact⟨a3.1,by omega⟩
 .rw[List.mem_singleton.1 ho]
  refine⟨?_,ha⟩
  unfold B7
  simp[i2,h12,hm,ht,show inR 2 4 8=false by decide]
 .simp only[List.mem_cons,List.not_mem_nil,or_false]at hmm
  rcases hmm with rfl|rfl
  .exact A4c zq0
  .exact Bda (.inr hj) zq0
 .simp only[Br];omega
theorem Aq0 {S X:Bs} {i:Int} {x y:Ak} {fin:Bool} {os:List Bc} {ns:List Ax} (hX:Mid S X [] ns fin false) (h0:0<=i) (hx:(Cc X)[i.toNat]? =some x) (hn:A5 y<=A5 x+900) (ho:Cs y=true) (hs:y.2.2.1=x.2.2.1) (hi:y.1=x.1) (hd:C4 y=C4 x) (hos:Jl os) (hol:os.length<=200000000) {ms:List Ax} (hms:H1 ms) (hml:ms.length<=200000000) (hnd:Br X<=Br S+90000) {sd:List YB} {N:Int} (hdd:F0 (sd,N,())=true) (hsd:sd.length<=X.2.2.1.length):
  Mid S (X.1,X.2.1,sd,N,X.2.2.2.2.1,(Cc X).set i.toNat y,J4 X,()) os ms fin false:=by
 obtain⟨⟨m1,_,_⟩,_,m3,⟨m4,m5,m6⟩,m7,m8,_⟩:=hX
 obtain⟨a1,a2,a3,a4,a5,a6,a7⟩:=Eh.1 m1
 have hl12:=(Cc X).length
 have hlt:(Cc X).length<=4294967296:=by
  unfold Hm at a4
  simp only[Bool.and_eq_true,Bool.not_eq_true',decide_eq_false_iff_not]at a4
  have:=a4.2.1
  show X.2.2.2.2.2.1.length<=_
  omega
 have ht:=A8h (t:=(X.2.2.2.2.1,X.2.2.2.2.2.1,())) hlt a4 hx ho hs (.inr hd)
 have hlv:D0 (X.2.2.2.2.1,(Cc X).set i.toNat y,())=D0 (Fw X):=by
  rw[Kl _ zq1,Kl (Fw X) hlt]
  rw[show Fa (X.2.2.2.2.1,(Cc X).set i.toNat y,()).2.1=Fa (Fw X).2.1 from Aha hx hd]
 have hsum:Bu A5 ((Cc X).set i.toNat y)<=Bu A5 (Cc X)+900:=Azc hx hn
 have hxm:x∈Cc X:=List.mem_of_getElem? hx
 refine⟨⟨Eh.2 ⟨a1,a2,hdd,ht,a5,a6,fun z hz=>?_⟩,hos,hms⟩,⟨hol,hml⟩,m3,⟨?_,?_,?_⟩,fun h=>?_,fun h=>(by cases h),?_⟩
 .rcases List.mem_or_eq_of_mem_set hz with hz|hz
  .exact a7 z hz
  .rw[hz,hi];exact a7 x hxm
 .show(Cc S).length<=((Cc X).set i.toNat y).length;simpa using m4
 .show((Cc X).set i.toNat y).length<=_;simpa using m5
 .show D0 (Fw S)<=D0 (X.2.2.2.2.1,(Cc X).set i.toNat y,());rw[hlv];exact m6
 .obtain⟨k1,k2⟩:=m7 h
  exact⟨by show((Cc X).set i.toNat y).length=_;simpa using k1,by show D0 (X.2.2.2.2.1,(Cc X).set i.toNat y,())=_;rw[hlv];exact k2⟩
 .have e1:Br (X.1,X.2.1,sd,N,X.2.2.2.2.1,(Cc X).set i.toNat y,J4 X,())=X.1.length+Bu E6 X.1+X.2.1.length+sd.length+(Cc X).length+Bu A5 ((Cc X).set i.toNat y)+(J4 X).length:=by simp only[Br,List.length_set]
  have e2:Br X=X.1.length+Bu E6 X.1+X.2.1.length+X.2.2.1.length+(Cc X).length+Bu A5 (Cc X)+(J4 X).length:=rfl
  omega
theorem Bdo (p:List YB) (n:YI) (a:A6) (f:Ar) (hp:G7 (p,())=true) (hn:inR n.1 0 1000000=true) (ha:Ck a=true) (hf:B7 f=true) (hk:f.1=3):Tot (fun s=>Cs s=true/\C4 s=false/\s.1=f.2.1/\s.2.1=f.2.2.1/\s.2.2.1=f.2.2.2.1/\s.2.2.2.2.2.2.1.length=32/\A5 s<=300) (Abp (p,()) n a f):=by
 obtain⟨c1,c2,c3,c4,c5,c6⟩:=Aiu hf hk
 have hnf:=Tq hf
 obtain⟨r,r1,r2,r3⟩:=Bjm (p,()) n a f zq0
 have hek:=Avo (p:=p) hp c2 c3
 refine⟨r,r1,?_⟩
 unfold Ks Qg at r2
 simp only[Af,Ag,Aa,Aj,List.length_nil,List.nil_append,Nat.zero_add]at r2
 rw[Aai,Ae,hp,Cq,Iv,Jd]at r2
 simp only[Ae,Bool.not_true,Ao]at r2
 rw[hn,ha,hf,show(f.1 != (3:Int))=false by simp[hk]]at r2
 simp only[Bool.not_true,Ao]at r2
 rw[Al zq0,Al zq0,Ba,Ba,Aec,Ae,show Hf ((1:Int),()) (f.2.2.2.1,()) (Lo p f.2.2.1 f.2.2.2.1 0,())=_ from(Ak4 1 f.2.2.2.1 _ (.inr rfl) c3 hek).2,Ae,show Li a=some (a.1,a.2.1,[],())from rfl,Ae]at r2
 simp only[Option.some.injEq]at r2
 subst r2
 exact⟨Sf (Bj.1 c1) c2 c3 (Ay5 (.inr rfl) c3 hek) rfl (Kk _) (H5.2 ⟨ha,by simp,(fun x hx=>by cases hx),List.Pairwise.nil⟩) (Bj.1 c4) (Bj.1 hn),rfl,rfl,rfl,rfl,hek,by omega⟩
theorem Bpd {id:Int} {cn sn k:List YB} {a:A6} {n:Int} (h1:inR id 1 9=true) (h2:cn.length=12) (h3:sn.length=12) (h4:k.length=32) (ha:Ck a=true) (hn:inR n 0 1000000=true):Ji ((4:Int),id,(0:Int),cn,sn,(0:Int),(0:Int),([]:List YB),k,a.1,a.2.1,n,())=true:=by
 have h1:=Bj.1 h1
 have hn:=Bj.1 hn
 rw[Mz]
 simp only[List.length_nil]
 exact⟨by omega,by omega,by omega,by omega,by omega,hn,.inr h2,.inr h3,by omega,.inr h4,ha⟩
theorem Bsd {S:Bs} (hs:Fg S=true) {id:Int} (h1:inR id 1 9=true) (h2:id<=(S.1.length:Int)): ∃e,idx S.1 (IntKind.i64.wrap (id-1))=some e/\G7 e=true:=by
 obtain⟨a1,a2,a3,a4,a5,a6,a7⟩:=Eh.1 hs
 have h1:=Bj.1 h1
 rw[w64 zq0]
 have hlt:(id-1).toNat<S.1.length:=by omega
 have hx:=List.getElem?_eq_getElem hlt
 refine⟨S.1[(id-1).toNat],by unfold idx;rw[if_pos zq0];exact hx,?_⟩
 have:=G8.1 a6 _ _ hx
 simpa using this
theorem A4d {l:List Ak} {s:List YB} (h:0<=Fr l s): ∃x,l[(Fr l s).toNat]? =some x/\idx l (Fr l s)=some x:=by
 cases hf:Ih (fun _ (x:Ak)=>Dz x.2.2.1 s) l 0 with
 |none=>unfold Fr Lw at h;rw[hf]at h;simp at h
 |some k=>
  have e:Fr l s=(k:Int):=by unfold Fr Lw;rw[hf];rfl
  obtain⟨j,y,hk,h2,h3,_⟩:=Sb hf
  have hk:k=j:=by omega
  subst hk
  refine⟨y,by rw[e];simpa using h2,?_⟩
  unfold idx
  rw[if_pos h,e]
  simpa using h2
theorem Bhr {S X:Bs} {i:Int} {x:Ak} {ns0:List Ax} {fin:Bool} (hX:Mid S X [] ns0 fin false) (hn:Br X<=5000000) (h0:0<=i) (hx:(Cc X)[i.toNat]? =some x) (hd:C4 x=false) (hnd:Br X<=Br S+90000) (hnl:ns0.length<=100):
  Tot (fun r=>Mid S r.1 r.2.1.1 r.2.2.1 fin false) (ob (Nh x) fun r19=>ob (I3 (X.2.2.2.2.1,Cc X,()) (i,()) r19.1) fun r20=>chk (decide (ns0.length+r19.2.2.1.length<=4294967296)) (some ((X.1,X.2.1,X.2.2.1,X.2.2.2.1,r20.1.1,r20.1.2.1,J4 X,()),r19.2.1,((ns0++r19.2.2.1),())))):=by
 obtain⟨⟨m1,_,m2⟩,_⟩:=id hX
 obtain⟨a1,a2,a3,a4,a5,a6,a7⟩:=Eh.1 m1
 have hxm:x∈Cc X:=List.mem_of_getElem? hx
 have hsm:A5 x<=Bu A5 (Cc X):=Ag8 (f:=A5) hxm
 have e2:Br X=X.1.length+Bu E6 X.1+X.2.1.length+X.2.2.1.length+(Cc X).length+Bu A5 (Cc X)+(J4 X).length:=rfl
 have ho:Cs x=true:=((Ach (by show(Cc X).length<=_;omega)).1 a4).2.2.2.1 x hxm
 obtain⟨r,os,ns,r1,_,r3,r4,r5,r6⟩:=Bjr x zq0
 obtain⟨r7,r8,r9⟩:=r6 ho hd
 rw[r1,Ae]
 have hnt:Co (X.2.2.2.2.1,Cc X,())<=5000000:=by simp only[Co];omega
 obtain⟨p1,p2,p3⟩:=Bqe (t:=(X.2.2.2.2.1,Cc X,())) (y:=r) zq0 a4 h0 hx r7 r8 (by rw[r9,hd])
 rw[p1,Ae]
 refine Ej (Al zq2) (Ah ?_)
 rcases Bs9 x zq0 ho hd r1 with⟨rfl,rfl,rfl⟩|⟨w1,w2,w3,w4,w5,w6,w7⟩
 .dsimp only
  rw[List.append_nil]
  exact Aq0 hX h0 hx zq0 ho rfl rfl rfl (fun _ h=>by cases h) zq3 m2 zq0 hnd a3 (Nat.le_refl _)
 .exact Aq0 hX h0 hx zq0 w1 w5 w4 (by rw[w6,hd]) w2 zq0 (Kw m2 w3) (by rw[List.length_append];omega) hnd a3 (Nat.le_refl _)
theorem Bq6 (S:Bs) (n:YI) (a:A6) (f:Ar) (hs:Fg S=true) (hn:Br S<=4000000):Tot (fun r=>Mid S r.1 r.2.1.1 r.2.2.1 true false) (Z2 S n a f):=by
 obtain⟨a1,a2,a3,a4,a5,a6,a7⟩:=Eh.1 hs
 have e2:Br S=S.1.length+Bu E6 S.1+S.2.1.length+S.2.2.1.length+(Cc S).length+Bu A5 (Cc S)+(J4 S).length:=rfl
 have base:Tot (fun r:Bs×((List Bc)×Unit)×((List Ax)×Unit)=>Mid S r.1 r.2.1.1 r.2.2.1 true false) (some (S,(([]:List Bc),()),(([]:List Ax),()))):=Ah (Mid.none hs)
 have hj:S.2.1.length=32:=by simp only[beq_iff_eq]at a2;omega
 have hnt:Co (S.2.2.2.2.1,S.2.2.2.2.2.1,())<=4000000:=by
  show(Cc S).length+Bu A5 (Cc S)<=_
  omega
 unfold Z2 Zv
 simp only[Af,Ag,Aa,Aj]
 obtain⟨k,k1,k3⟩:=Bpa S.2.1 n a f
 rw[k1,Ae]
 refine An (fun _=>base) (fun hk0=>An (fun _=>base) (fun hid=>?_))
 have hk0:k=0:=by simpa using hk0
 have hid:=of_decide_eq_false hid
 obtain⟨_,ht,ha,hk,hf⟩:=k3 hk0
 obtain⟨c1,c2,c3,c4,c5,c6⟩:=Aiu hf hk
 obtain⟨⟨e,⟨⟩⟩,he,hpsk⟩:=Bsd hs c1 zq0
 obtain⟨pk,pk1⟩:=Bkd e f
 rw[he,Ae,pk1,Ae]
 refine An (fun _=>base) (fun _=>?_)
 rw[Aac _ _ (by show(Cc S).length<=_;omega),Ae]
 refine An (fun hneg=>?_) (fun hneg=>?_)
 .rw[Ae]
  refine Ad (Bdo e n a f hpsk ht ha hf hk) (fun r6 ⟨s1,s2,s3,s4,s5,s6,s7⟩=>?_)
  refine Ad (Bj7 (S.2.2.2.2.1,S.2.2.2.2.2.1,()) r6 zq0) (fun r7 h7=>?_)
  refine An (fun _=>base) (fun h0=>?_)
  have h0:r7.2.1=0:=by simpa using h0
  obtain⟨q1,q2,q3,q4⟩:=Bm6 (by show(Cc S).length<=_;omega) h7 h0
  obtain⟨_,_,_,_,_,_,q5⟩:=h7.2 h0
  obtain⟨⟨rc,rl,⟨⟩⟩,rk⟩:=r7
  dsimp only at q1 q2 q3 q4 q5 ⊢
  simp only[Prod.mk.injEq,and_true]at q5
  obtain⟨rfl,rfl⟩:=q5
  have hfk:=Avm hpsk
  have hpb:(H0 f.2.1 f.2.2.1 f.2.2.2.1 f.2.2.2.2.1 f.2.2.2.2.2.1).length<=46:=by rw[Ask];cases Nm f.2.1 f.2.2.1 f.2.2.2.1 f.2.2.2.2.1 f.2.2.2.2.2.1<;>simp
  have hmb:=Tr (a:=a) (id:=f.2.1) (t:=f.2.2.2.2.1) c2 c3
  rw[A06 a f.2.1 f.2.2.1 f.2.2.2.1 f.2.2.2.2.1 ha c1 c2 c3 c4,Ae,A33 _ _ _ zq0 zq0 zq0,Ae,Ay6,Ae,Ay7,Ae,A33 _ _ _ zq0 zq0 zq0,Ae,Ch _ zq2,Ae,Ch _ zq2,Ae,Ch _ zq2,Ae]
  refine Ej (Al zq3) ?_
  rw[Aac _ _ (by show(Cc S++[r6]).length<=_;simp;omega),Ae]
  have hfs:Fr (S.2.2.2.2.2.1++[r6]) f.2.2.2.1=((Cc S).length:Int):=by rw[<-s5];exact q3
  rw[hfs]
  have hgx:(S.2.2.2.2.2.1++[r6])[(((Cc S).length:Nat):Int).toNat]? =some r6:=by simp[Cc]
  rw[show idx (S.2.2.2.2.2.1++[r6]) (((Cc S).length:Nat):Int)=some r6 by unfold idx;rw[if_pos zq0];exact hgx,Ae]
  have hmid: ∀ns,H1 ns->ns.length<=100->Mid S (S.1,S.2.1,S.2.2.1,S.2.2.2.1,S.2.2.2.2.1,S.2.2.2.2.2.1++[r6],S.2.2.2.2.2.2.1,()) [] ns true false:=fun ns hns hnl=>by
   refine⟨⟨Eh.2 ⟨a1,a2,a3,q1,a5,a6,fun z hz=>?_⟩,fun _ h=>(by cases h),hns⟩,⟨by simp,by omega⟩,rfl,⟨?_,?_,?_⟩,fun h=>?_,fun h=>(by cases h),?_⟩
   .rcases List.mem_append.1 hz with hz|hz
    .exact a7 z hz
    .rw[List.mem_singleton.1 hz,s3];show f.2.1<=(S.1.length:Int);omega
   .show(Cc S).length<=(Cc S++[r6]).length;simp
   .show(Cc S++[r6]).length<=_;simp
   .show D0 (Fw S)<=D0 (S.2.2.2.2.1,S.2.2.2.2.2.1++[r6],());rw[q2];show D0 (Fw S)<=D0 (Fw S)+1;omega
   .rcases h with h|h
    .cases h
    .have q4:D0 (Fw S)<S.2.2.2.2.1:=q4
     omega
   .have:Bu A5 (Cc S++[r6])=Bu A5 (Cc S)+A5 r6:=by
     rw[Sd];simp[Bu]
    show S.1.length+Bu E6 S.1+S.2.1.length+S.2.2.1.length+(Cc S++[r6]).length+Bu A5 (Cc S++[r6])+(J4 S).length<=Br S+100000
    rw[List.length_append,this,List.length_singleton];omega
  have hnotes:H1 (([]:List Ax)++[Hn S.2.1 f.2.2.2.1 (X8 a f.2.1 f.2.2.1 f.2.2.2.1 f.2.2.2.2.1),Hn (Jh e) f.2.2.2.1 (H0 f.2.1 f.2.2.1 f.2.2.2.1 f.2.2.2.2.1 f.2.2.2.2.2.1),((4:Int),f.2.1,(0:Int),f.2.2.1,f.2.2.2.1,(0:Int),(0:Int),([]:List YB),r6.2.2.2.2.2.2.1,a.1,a.2.1,n.1,())]):=fun m hm=>by
   simp only[List.nil_append,List.mem_cons,List.not_mem_nil,or_false]at hm
   rcases hm with rfl|rfl|rfl
   .exact A02 (.inr hj) (.inr c3) zq0
   .exact A02 (.inr hfk) (.inr c3) zq0
   .exact Bpd c1 c2 c3 s6 ha ht
  have hm3:=hmid _ hnotes zq3
  refine An (fun _=>Ah hm3) (fun _=>An (fun _=>Ah hm3) (fun _=>?_))
  rw[I5,Ae]
  refine An (fun _=>Ah hm3) (fun _=>?_)
  exact Bhr hm3 (by
   show S.1.length+Bu E6 S.1+S.2.1.length+S.2.2.1.length+(Cc S++[r6]).length+Bu A5 (Cc S++[r6])+(J4 S).length<=5000000
   rw[Sd,List.length_append];simp[Bu];omega) zq0 hgx s2 (by
   show S.1.length+Bu E6 S.1+S.2.1.length+S.2.2.1.length+(Cc S++[r6]).length+Bu A5 (Cc S++[r6])+(J4 S).length<=Br S+90000
   rw[Sd,List.length_append];simp[Bu];omega) zq3
 .have hneg:=of_decide_eq_false hneg
  dsimp only at hneg
  rw[Ae]
  obtain⟨x,hx,hix⟩:=A4d (l:=S.2.2.2.2.2.1) (s:=f.2.2.2.1) zq0
  rw[hix,Ae]
  refine An (fun _=>base) (fun hd=>An (fun _=>base) (fun _=>?_))
  rw[I5,Ae]
  refine An (fun _=>base) (fun _=>?_)
  exact Bhr (ns0:=[]) (Mid.none hs) zq0 (Int.not_lt.1 hneg) hx hd zq0 zq3
theorem Bse {sn b:List YB} {a:A6} {n:Int} (h1:sn.length=12) (h2:b.length<=100) (ha:Ck a=true) (hn:inR n 0 1000000=true):Ji ((7:Int),(0:Int),(0:Int),([]:List YB),sn,(0:Int),(0:Int),b,([]:List YB),a.1,a.2.1,n,())=true:=by
 have hn:=Bj.1 hn
 rw[Mz]
 simp only[List.length_nil]
 exact⟨by omega,by omega,by omega,by omega,by omega,hn,.inl trivial,.inr h1,h2,.inl trivial,ha⟩
theorem Bdp (S:Bs) (n:YI) (a:A6) (f:Ar) (d:YBs) (sd:List YB) (N:Int) {i:Int} {x:Ak} (hs:Fg S=true) (hn:Br S<=4000000) (ha:Ck a=true) (ht:inR n.1 0 1000000=true) (hf:B7 f=true) (hk:inR f.1 4 8=true) (w1:wfB f.2.2.2.1) (w2:wfB (Cm x).2.1) (hdl:d.1.length<=12) (hdd:F0 (sd,N,())=true) (hsd:sd.length<=S.2.2.1.length) (h0:0<=i) (hx:(Cc S)[i.toNat]? =some x) (hd:C4 x=false):
  Tot (fun r:Bs×((List Bc)×Unit)×((List Ax)×Unit)=>Mid S r.1 r.2.1.1 r.2.2.1 false false) (ob (Lm x n a f d) fun r6=>ob (I3 (S.2.2.2.2.1,S.2.2.2.2.2.1,()) (i,()) r6.1) fun r7=>br r6.2.2.2.1 (ob (Bk (f.2.2.2.1,())) fun r8=>ob (Bk d) fun r9=>ob (N8 d) fun r10=>chk (decide ([r10].length+r6.2.2.1.1.length<=4294967296)) (chk (decide (([r10]++r6.2.2.1.1).length+[((7:Int),(0:Int),(0:Int),([]:List YB),r8.1,(0:Int),(0:Int),r9.1,([]:List YB),a.1,a.2.1,n.1,())].length<=4294967296)) (some ((S.1,S.2.1,sd,N,r7.1.1,r7.1.2.1,S.2.2.2.2.2.2.1,()),r6.2.1,((([r10]++r6.2.2.1.1)++[((7:Int),(0:Int),(0:Int),([]:List YB),r8.1,(0:Int),(0:Int),r9.1,([]:List YB),a.1,a.2.1,n.1,())]),()))))) (some ((S.1,S.2.1,S.2.2.1,S.2.2.2.1,r7.1.1,r7.1.2.1,S.2.2.2.2.2.2.1,()),r6.2.1,r6.2.2.1))):=by
 obtain⟨a1,a2,a3,a4,a5,a6,a7⟩:=Eh.1 hs
 have hfn:=Tq hf
 have hbody:=Aed hf hk
 have hxm:x∈Cc S:=List.mem_of_getElem? hx
 have hsm:A5 x<=Bu A5 (Cc S):=Ag8 (f:=A5) hxm
 have e2:Br S=S.1.length+Bu E6 S.1+S.2.1.length+S.2.2.1.length+(Cc S).length+Bu A5 (Cc S)+(J4 S).length:=rfl
 have ho:Cs x=true:=((Ach (by show(Cc S).length<=_;omega)).1 a4).2.2.2.1 x hxm
 obtain⟨r,os,ns,k,r1,_,r3,r4,r5⟩:=Bf6 x n a f d zq0 zq0 zq0 w1 w2
 have hnt:Co (S.2.2.2.2.1,S.2.2.2.2.2.1,())<=4000000:=by
  show(Cc S).length+Bu A5 (Cc S)<=_
  omega
 have hW:=Bsb x n a f d zq0 zq0 w1 w2 ho hd hdl r1
 have hr:Cs r=true/\Jl os/\H1 ns/\r.1=x.1/\r.2.2.1=x.2.2.1/\C4 r=false:=by
  rcases hW with⟨rfl,rfl,rfl,rfl⟩|⟨g1,g2,g3,g4,g5,g6,_⟩
  .exact⟨ho,fun _ h=>(by cases h),fun _ h=>(by cases h),rfl,rfl,hd⟩
  .exact⟨g1,g2,g3,g4,g5,g6⟩
 obtain⟨g1,g2,g3,g4,g5,g6⟩:=hr
 rw[r1,Ae]
 obtain⟨p1,p2,p3⟩:=Bqe (t:=(S.2.2.2.2.1,S.2.2.2.2.2.1,())) (y:=r) zq0 a4 h0 hx g1 g5 (by rw[g6,hd])
 rw[p1,Ae]
 have hosl:os.length<=100000000:=by omega
 have hnsl:ns.length<=100000000:=by omega
 refine An (fun _=>?_) (fun _=>?_)
 .obtain⟨d,⟨⟩⟩:=d
  dsimp only at hdl
  rw[Ch _ zq2,Ae,Ch _ zq2,Ae,A4b _ zq0,Ae]
  refine Ej (Al zq1) (Ej (Al zq1) (Ah ?_))
  have hno:H1 (([Awt d]++ns)++[((7:Int),(0:Int),(0:Int),([]:List YB),f.2.2.2.1,(0:Int),(0:Int),d,([]:List YB),a.1,a.2.1,n.1,())]):=Kw (Kw (Ey (A4c zq0)) g3) (Ey (Bse hbody.1 zq0 ha ht))
  exact Aq0 (Mid.none hs) h0 hx r3 g1 g5 g4 (by rw[g6,hd]) g2 zq0 hno zq1 zq0 hdd hsd
 .exact Ah (Aq0 (Mid.none hs) h0 hx r3 g1 g5 g4 (by rw[g6,hd]) g2 zq0 g3 zq0 zq0 a3 (Nat.le_refl _))
theorem Bpe (S:Bs) (n:YI) (a:A6) (f:Ar) (hs:Fg S=true) (hn:Br S<=4000000) (ha:Ck a=true) (ht:inR n.1 0 1000000=true) (hf:B7 f=true) (hk:inR f.1 4 8=true) (w1:wfB f.2.2.2.1) (w2: ∀x∈Cc S,wfB (Cm x).2.1):Tot (fun r=>Mid S r.1 r.2.1.1 r.2.2.1 false false) (T4 S n a f):=by
 obtain⟨a1,a2,a3,a4,a5,a6,a7⟩:=Eh.1 hs
 have e2:Br S=S.1.length+Bu E6 S.1+S.2.1.length+S.2.2.1.length+(Cc S).length+Bu A5 (Cc S)+(J4 S).length:=rfl
 have base:Tot (fun r:Bs×((List Bc)×Unit)×((List Ax)×Unit)=>Mid S r.1 r.2.1.1 r.2.2.1 false false) (some (S,(([]:List Bc),()),(([]:List Ax),()))):=Ah (Mid.none hs)
 have hro:F0 ((G5 (S.2.2.1,S.2.2.2.1,())).1.1,(G5 (S.2.2.1,S.2.2.2.1,())).1.2.1,())=true:=by
  have a3':=a3
  unfold F0 at a3'
  simp only[Bool.and_eq_true,Bj]at a3'
  unfold G5
  split
  .rename_i h
   unfold F0
   simp only[Bool.and_eq_true,Bj]
   have:=h.2
   dsimp only at this
   exact⟨a3'.1,by omega⟩
  .exact a3
 have hr1:=Bcw (S.2.2.1,S.2.2.2.1,())
 have hr2:=Boo (S.2.2.1,S.2.2.2.1,())
 unfold T4 Tz
 simp only[Af,Ag,Aa,Aj]
 rw[Aac _ _ (by show(Cc S).length<=_;omega),Ae]
 refine An (fun _=>base) (fun hneg=>?_)
 have hneg:=of_decide_eq_false hneg
 dsimp only at hneg
 obtain⟨x,hx,hix⟩:=A4d (l:=S.2.2.2.2.2.1) (s:=f.2.2.2.1) (Int.not_lt.1 hneg)
 rw[hix,Ae]
 refine An (fun _=>base) (fun hd=>?_)
 rw[Bmf _ zq2,Ae,Bcj S a _ zq0,Ae]
 have hxm:x∈Cc S:=List.mem_of_getElem? hx
 refine An (fun _=>?_) (fun _=>?_)
 .rw[Ae]
  exact Bdp S n a f (([]:List YB),()) _ _ hs hn ha ht hf hk w1 (w2 x hxm) zq3 hro (by rw[hr1];exact Nat.le_refl _) (Int.not_lt.1 hneg) hx hd
 .rw[Ae]
  exact Bdp S n a f ((G5 (S.2.2.1,S.2.2.2.1,())).2,()) _ _ hs hn ha ht hf hk w1 (w2 x hxm) hr2 hro (by rw[hr1];exact Nat.le_refl _) (Int.not_lt.1 hneg) hx hd
def frO (x:Bc):Ar:=(x.2.2.1,x.2.2.2.1,x.2.2.2.2.1,x.2.2.2.2.2.1,x.2.2.2.2.2.2.1,x.2.2.2.2.2.2.2.1,x.2.2.2.2.2.2.2.2.1,x.2.2.2.2.2.2.2.2.2.1,x.2.2.2.2.2.2.2.2.2.2.1,x.2.2.2.2.2.2.2.2.2.2.2.1,x.2.2.2.2.2.2.2.2.2.2.2.2.1,())
def szO (x:Bc):Int:=((Pd (frO x)).length:Int)
def Gr (t:Cj) (p:List Bc×List Am) (x:Bc):List Bc×List Am:=
 bif Aqh t (x.1,x.2.1,())then(p.1++[x],p.2)else match Uz p.2 (x.1,x.2.1,()) (szO x)with|some r=>(p.1++[x],r)|none=>p
def Lu (t:Cj) (l:List Bc) (cr:List Am):List Bc×List Am:=l.foldl (Gr t) ([],cr)
theorem Bkf {t:Cj} {l:List Bc} {x:Bc} {cr:List Am}:Lu t (l++[x]) cr=Gr t (Lu t l cr) x:=by
 unfold Lu;rw[List.foldl_append];rfl
def En (t:Cj):List Bc->Int
 |[]=>0
 |x::r=>(bif Aqh t (x.1,x.2.1,())then 0 else szO x)+En t r
theorem Aef {t:Cj}: ∀ {a b:List Bc},En t (a++b)=En t a+En t b
 |[],b=>by simp[En]
 |x::a,b=>by simp only[List.cons_append,En,Aef];omega
theorem Bdq {t:Cj}: ∀(l:List Bc) (p:List Bc×List Am),Cg p.2=true->
  Cg (l.foldl (Gr t) p).2=true/\Dt (l.foldl (Gr t) p).2-En t (l.foldl (Gr t) p).1=Dt p.2-En t p.1/\(l.foldl (Gr t) p).2.length=p.2.length/\(l.foldl (Gr t) p).1.length<=p.1.length+l.length/\ ∀x∈(l.foldl (Gr t) p).1,x∈p.1\/x∈l
 |[],p,h=>⟨h,rfl,rfl,by simp,fun x hx=>.inl hx⟩
 |y::l,p,h=>by
  rw[List.foldl_cons]
  have hst:Cg (Gr t p y).2=true/\Dt (Gr t p y).2-En t (Gr t p y).1=Dt p.2-En t p.1/\(Gr t p y).2.length=p.2.length/\(Gr t p y).1.length<=p.1.length+1/\ ∀x∈(Gr t p y).1,x∈p.1\/x=y:=by
   unfold Gr
   cases ha:Aqh t (y.1,y.2.1,())with
   |true=>
    simp only[cond_true]
    refine⟨h,?_,by first|trivial|rfl,by simp,fun x hx=>by simpa using hx⟩
    rw[Aef];simp only[En,ha,cond_true];omega
   |false=>
    simp only[cond_false]
    cases hsp:Uz p.2 (y.1,y.2.1,()) (szO y)with
    |none=>exact⟨h,by first|trivial|rfl,by first|trivial|rfl,by simp,fun x hx=>.inl hx⟩
    |some r=>
     obtain⟨_,g2,g3,g4⟩:=A8p hsp
     refine⟨g2,?_,g4,by simp,fun x hx=>by simpa using hx⟩
     dsimp only
     rw[Aef,g3];simp only[En,ha,cond_false];omega
  obtain⟨s1,s2,s3,s4,s5⟩:=hst
  obtain⟨i1,i2,i3,i4,i5⟩:=Bdq l (Gr t p y) s1
  refine⟨i1,by omega,by omega,by simp only[List.length_cons];omega,fun x hx=>?_⟩
  rcases i5 x hx with h|h
  .rcases s5 x h with h|h
   .exact .inl h
   .exact .inr (by rw[h];simp)
  .exact .inr (by simp[h])
theorem Bdr {t:Cj} {l:List Bc} {cr:List Am} (h:Cg cr=true):Cg (Lu t l cr).2=true/\Dt (Lu t l cr).2-En t (Lu t l cr).1=Dt cr/\(Lu t l cr).2.length=cr.length/\(Lu t l cr).1.length<=l.length/\ ∀x∈(Lu t l cr).1,x∈l:=by
 obtain⟨h1,h2,h3,h4,h5⟩:=Bdq (t:=t) l ([],cr) h
 refine⟨h1,h2.trans (Int.sub_zero _),h3,Nat.le_trans h4 zq3,fun x hx=>?_⟩
 rcases h5 x hx with h|h
 .cases h
 .exact h
theorem Bhs (x:Bc) (h:Aq (frO x)<=536870912):Xs (x.2.2.1,x.2.2.2.1,x.2.2.2.2.1,x.2.2.2.2.2.1,x.2.2.2.2.2.2.1,x.2.2.2.2.2.2.2.1,x.2.2.2.2.2.2.2.2.1,x.2.2.2.2.2.2.2.2.2.1,x.2.2.2.2.2.2.2.2.2.2.1,x.2.2.2.2.2.2.2.2.2.2.2.1,x.2.2.2.2.2.2.2.2.2.2.2.2.1,())=some (szO x,()):=Bo8 (frO x) h
theorem Bsf {i:Nat} (h:i<=1000000000):Nat.ble (Int.toNat (i:Int)+1) (Int.toNat (IntKind.i64.wrap ((i:Int)+1)))=true:=by
 rw[w64 zq0]
 exact Nat.ble_eq_true_of_le zq0
theorem Bpf (ns:List Ax) (frames:List Bc) (cr:List Am) (e1:List YBs) (e2 e3:List YB) (e4 e5:Int) (e6:List Ak) (e7:List Am) (x1:List YBs) (x2 x3:List YB) (x4 cap:Int) (l:List Ak) (hcr:Cg cr=true) (hl:frames.length<=200000000) (hfr:Jl frames) (hT:l.length<=4294967296):
  Ay D5 (ns,([]:List Bc),frames,(frames.length:Int),(0:Int),e1,e2,e3,e4,e5,e6,e7,x1,x2,x3,x4,cap,l,cr,())=some (ns,(Lu (cap,l,()) frames cr).1,e1,e2,e3,e4,e5,e6,e7,x1,x2,x3,x4,cap,l,(Lu (cap,l,()) frames cr).2,()):=by
 have e:=Ct (B:=D5) frames.length (fun i=>(ns,(Lu (cap,l,()) (frames.take i) cr).1,frames,(frames.length:Int),(i:Int),e1,e2,e3,e4,e5,e6,e7,x1,x2,x3,x4,cap,l,(Lu (cap,l,()) (frames.take i) cr).2,())) (ns,(Lu (cap,l,()) frames cr).1,e1,e2,e3,e4,e5,e6,e7,x1,x2,x3,x4,cap,l,(Lu (cap,l,()) frames cr).2,())
  (fun i hi=>by
   have hx:=List.getElem?_eq_getElem hi
   have hxm:=List.getElem_mem hi
   have htk:frames.take (i+1)=frames.take i++[frames[i]]:=by rw[List.take_add_one,hx];rfl
   rw[htk,Bkf]
   obtain⟨_,_,f3,f4,_⟩:=Bdr (t:=(cap,l,())) (l:=frames.take i) hcr
   have hc8:=(Dd.1 hcr).1
   have hfo:=(hfr _ hxm).1
   have hfn:=Tq hfo
   have f5:(frames.take i).length<=i:=by simp;omega
   generalize Lu (cap,l,()) (frames.take i) cr=p at f3 f4
   generalize frames[i]=x at hx hxm hfo hfn
   obtain⟨ou,cc⟩:=p
   dsimp only at f3 f4
   unfold D5 Gr
   simp only[Af,Ag,Aa,Aj]
   rw[Al zq0,A9,Nat.beq_refl,Ba,B9 hx,Ae,Bch _ _ hT,Ae,Bsf zq0,w64 (n:=(i:Int)+1) zq0]
   dsimp only
   cases Aqh (cap,l,()) (x.1,x.2.1,())with
   |true=>
    simp only[Bool.not_true,Ao,Ba,cond_true]
    rw[Al zq1,Ba]
    rfl
   |false=>
    simp only[Bool.not_false,A9,Ba,cond_false]
    rw[Bhs x (Nat.le_trans hfn zq7),Ae,Bo7 cc (x.1,x.2.1,()) _ zq0,Ae]
    dsimp only
    cases Uz cc (x.1,x.2.1,()) (szO x)with
    |none=>rfl
    |some r=>
     dsimp only
     rw[Al zq1]
     rfl)
  (by
   rw[List.take_length]
   unfold D5
   simp only[Af,Ag,Aa,Aj]
   rw[Bp zq0,Ao])
 have e0:Lu (cap,l,()) (frames.take 0) cr=([],cr):=by rw[List.take_zero];rfl
 rw[e0]at e
 exact e
def SvW (S X:Bs) (os:List Bc) (ns:List Ax) (ok:Bool) (f:Ar):Prop:=
 (Fg X=true/\Jl os/\H1 ns)/\(os.length<=200000000/\ns.length<=200000000/\Br X<=8388608)/\((Cc S).length<=(Cc X).length/\D0 (Fw S)<=D0 (Fw X))/\
 ((ok=false\/f.1≠3\/D0 (Fw S)=S.2.2.2.2.1)->(Cc X).length=(Cc S).length/\D0 (Fw X)=D0 (Fw S))/\(ok=true->f.1=1->Fw X=Fw S/\os.length<=1)/\
 Dt (J4 X)=Dt (J4 S)+En (Fw X) os
theorem Ahb {S S0 X:Bs} {os:List Bc} {ns:List Ax} {fin init ok:Bool} {f:Ar} (h:Mid S0 X os ns fin init) (hn:Br S0<=4000000) (e1:Fw S0=Fw S) (e2:Dt (J4 S0)=Dt (J4 S)) (hf:ok=false\/f.1≠3->fin=false) (hi:ok=true->f.1=1->init=true)
  (g1:List YBs) (g2 g3:List YB) (g4 g5:Int) (g6:List Ak) (g7:List Am):
  Tot (fun r:Bs×((List Bc)×Unit)×((List Ax)×Unit)=>SvW S r.1 r.2.1.1 r.2.2.1 ok f) (ob (Ay D5 (ns,([]:List Bc),os,(os.length:Int),(0:Int),g1,g2,g3,g4,g5,g6,g7,X.1,X.2.1,X.2.2.1,X.2.2.2.1,X.2.2.2.2.1,X.2.2.2.2.2.1,X.2.2.2.2.2.2.1,())) fun o12=>
   some ((o12.2.2.2.2.2.2.2.2.2.1,o12.2.2.2.2.2.2.2.2.2.2.1,o12.2.2.2.2.2.2.2.2.2.2.2.1,o12.2.2.2.2.2.2.2.2.2.2.2.2.1,o12.2.2.2.2.2.2.2.2.2.2.2.2.2.1,o12.2.2.2.2.2.2.2.2.2.2.2.2.2.2.1,o12.2.2.2.2.2.2.2.2.2.2.2.2.2.2.2.1,()),(o12.2.1,()),(o12.1,()))):=by
 obtain⟨⟨m1,m2,m2'⟩,⟨m3,m4⟩,m5,⟨m6,_,m7⟩,m8,m9,m10⟩:=h
 obtain⟨a1,a2,a3,a4,a5,a6,a7⟩:=Eh.1 m1
 have n2:Br X=X.1.length+Bu E6 X.1+X.2.1.length+X.2.2.1.length+(Cc X).length+Bu A5 (Cc X)+(J4 X).length:=rfl
 have hT:X.2.2.2.2.2.1.length<=4294967296:=by show(Cc X).length<=_;omega
 rw[Bpf ns os X.2.2.2.2.2.2.1 g1 g2 g3 g4 g5 g6 g7 X.1 X.2.1 X.2.2.1 X.2.2.2.1 X.2.2.2.2.1 X.2.2.2.2.2.1 a5 m3 m2 hT,Ae]
 obtain⟨s1,s2,s3,s4,s5⟩:=Bdr (t:=(X.2.2.2.2.1,X.2.2.2.2.2.1,())) (l:=os) a5
 generalize Lu (X.2.2.2.2.1,X.2.2.2.2.2.1,()) os X.2.2.2.2.2.2.1=p at s1 s2 s3 s4 s5
 obtain⟨ou,cc⟩:=p
 dsimp only at s1 s2 s3 s4 s5
 have hcr:J4 X=J4 S0:=m5
 have hl0:(Cc S0).length=(Cc S).length:=by
  have:(Fw S0).2.1=(Fw S).2.1:=by rw[e1]
  exact congrArg List.length this
 have hc0:S0.2.2.2.2.1=S.2.2.2.2.1:=by
  have:(Fw S0).1=(Fw S).1:=by rw[e1]
  exact this
 refine Ah ⟨⟨Eh.2 ⟨a1,a2,a3,a4,s1,a6,a7⟩,fun o ho=>?_,m2'⟩,⟨by dsimp only;omega,m4,?_⟩,⟨?_,?_⟩,fun h=>?_,fun h1 h2=>?_,?_⟩
 .exact m2 o (s5 o ho)
 .show X.1.length+Bu E6 X.1+X.2.1.length+X.2.2.1.length+(Cc X).length+Bu A5 (Cc X)+cc.length<=_
  have:cc.length=(J4 X).length:=s3
  omega
 .show(Cc S).length<=(Cc X).length;omega
 .show D0 (Fw S)<=D0 (Fw X);rw[<-e1];exact m7
 .obtain⟨k1,k2⟩:=m8 (by
   rcases h with h|h|h
   .exact .inl (hf (.inl h))
   .exact .inl (hf (.inr h))
   .exact .inr (by rw[e1,hc0];exact h))
  exact⟨k1.trans hl0,k2.trans (by rw[e1])⟩
 .obtain⟨k1,k2⟩:=m9 (hi h1 h2)
  exact⟨k1.trans e1,by dsimp only;omega⟩
 .show Dt cc=Dt (J4 S)+En (X.2.2.2.2.1,X.2.2.2.2.2.1,()) ou
  have:Dt X.2.2.2.2.2.2.1=Dt (J4 S):=by rw[<-e2,<-hcr];rfl
  omega
theorem Bpg (S:Bs) (n:YI) (a:A6) (b:YBs) (hs:Fg S=true) (hn:Br S<=3000000) (hb:WL b) (hw: ∀x∈Cc S,wfB (Cm x).2.1):Tot (fun p=>Rw b=some p/\Tot (fun r=>SvW S r.1 r.2.1.1 r.2.2.1 p.2.1 p.1) (Z6 S n a b)) (Rw b):=by
 obtain⟨⟨f,ok,⟨⟩⟩,hg,hp⟩:=Bgl b hb
 refine⟨_,hg,hg,?_⟩
 dsimp only
 obtain⟨a1,a2,a3,a4,a5,a6,a7⟩:=Eh.1 hs
 have base:Tot (fun r:Bs×((List Bc)×Unit)×((List Ax)×Unit)=>SvW S r.1 r.2.1.1 r.2.2.1 ok f) (some (S,(([]:List Bc),()),(([]:List Ax),()))):=
  Ah ⟨⟨hs,fun _ h=>(by cases h),fun _ h=>(by cases h)⟩,⟨by simp,by simp,by dsimp only;omega⟩,⟨Nat.le_refl _,Int.le_refl _⟩,fun _=>⟨rfl,rfl⟩,fun _ _=>⟨rfl,by simp⟩,by simp[En]⟩
 unfold Z6 Ta
 simp only[Af,Ag,Aa,Aj]
 rw[Bcz S zq0,Ae,Aqq S zq0,Ae,Cd,Ae,Hs,Ae]
 refine An (fun _=>base) (fun _=>An (fun _=>base) (fun ht=>An (fun _=>base) (fun ha=>?_)))
 have ht:inR n.1 0 1000000=true:=by simpa using ht
 have ha:Ck a=true:=by simpa using ha
 have hc8:=(Dd.1 a5).1
 rw[Bq4 _ _ _ zq0,Ae,hg,Ae]
 dsimp only
 obtain⟨gk,gs⟩:=Bdj (a:=a) (n:=(b.1.length:Int)) a5
 have gl:=Bna S.2.2.2.2.2.2.1 a (b.1.length:Int)
 generalize Vj S.2.2.2.2.2.2.1 a (b.1.length:Int)=cc at gk gs gl
 have hS0:Fg (S.1,S.2.1,S.2.2.1,S.2.2.2.1,S.2.2.2.2.1,S.2.2.2.2.2.1,cc,())=true:=Eh.2 ⟨a1,a2,a3,a4,gk,a6,a7⟩
 have hN0:Br (S.1,S.2.1,S.2.2.1,S.2.2.2.1,S.2.2.2.2.1,S.2.2.2.2.2.1,cc,())<=4000000:=by
  have e1:Br (S.1,S.2.1,S.2.2.1,S.2.2.2.1,S.2.2.2.2.1,S.2.2.2.2.2.1,cc,())=S.1.length+Bu E6 S.1+S.2.1.length+S.2.2.1.length+(Cc S).length+Bu A5 (Cc S)+cc.length:=rfl
  have e2:Br S=S.1.length+Bu E6 S.1+S.2.1.length+S.2.2.1.length+(Cc S).length+Bu A5 (Cc S)+(J4 S).length:=rfl
  omega
 refine An (fun hk=>?_) (fun hk=>?_)
 .have hk:ok=false:=by simpa using hk
  exact Ahb (S:=S) (ok:=ok) (f:=f) (fin:=false) (init:=false) (Mid.none hS0) hN0 rfl gs (fun _=>rfl) (fun h=>by rw[hk]at h;cases h) _ _ _ _ _ _ _
 have hk:ok=true:=by simpa using hk
 obtain⟨p1,p2,p3,p4⟩:=hp hk
 refine An (fun h1=>?_) (fun h1=>?_)
 .have h1:f.1=1:=by simpa using h1
  refine Ad (Bpc _ n a f hS0 hN0 ha ht p1 h1) (fun r hr=>?_)
  exact Ahb (S:=S) (ok:=ok) (f:=f) hr hN0 rfl gs (fun _=>rfl) (fun _ _=>rfl) _ _ _ _ _ _ _
 have h1:f.1≠1:=by simpa using h1
 refine An (fun h3=>?_) (fun h3=>?_)
 .have h3:f.1=3:=by simpa using h3
  refine Ad (Bq6 _ n a f hS0 hN0) (fun r hr=>?_)
  exact Ahb (S:=S) (ok:=ok) (f:=f) hr hN0 rfl gs (fun h=>by rcases h with h|h;(rw[hk]at h;cases h);exact(h h3).elim) (fun _ h=>(h1 h).elim) _ _ _ _ _ _ _
 have h3:f.1≠3:=by simpa using h3
 rw[Aae,Ae]
 refine An (fun hse=>?_) (fun _=>?_)
 .refine Ad (Bpe _ n a f hS0 hN0 ha ht p1 hse p2 hw) (fun r hr=>?_)
  exact Ahb (S:=S) (ok:=ok) (f:=f) hr hN0 rfl gs (fun _=>rfl) (fun _ h=>(h1 h).elim) _ _ _ _ _ _ _
 .exact Ahb (S:=S) (ok:=ok) (f:=f) (fin:=false) (init:=false) (Mid.none hS0) hN0 rfl gs (fun _=>rfl) (fun _ h=>(h1 h).elim) _ _ _ _ _ _ _
theorem Aq1 {l:List Am} (h: ∀x∈l,Ag7 x):0<=Dt l/\Dt l<=3000000*(l.length:Int):=by
 induction l with
 |nil=>simp[Dt]
 |cons x r ih=>
  obtain⟨i1,i2⟩:=ih (fun y hy=>h y (by simp[hy]))
  obtain⟨_,g2,g3⟩:=h x zq3
  simp only[Dt,List.length_cons]
  omega
theorem A8r (t:Cj) (l:List Bc):0<=En t l/\En t l<=300*(l.length:Int):=by
 induction l with
 |nil=>simp[En]
 |cons x r ih=>
  have h:=Ag9 (frO x)
  simp only[En,List.length_cons,szO]
  cases Aqh t (x.1,x.2.1,())<;>simp only[cond_true,cond_false]<;>omega
theorem Bgm (a:YBs) (hw: ∀r,K8 a=some r->wfB r.2.2.2.1):Ash a=some (true,()):=by
 unfold Ash Md
 simp only[Ag,Af,Aa,E8]
 rw[show Bg4 a=some (decide ((a.1.length:Int)>(1048576:Int)),())from rfl,Ae]
 by_cases hb:(a.1.length:Int)>1048576
 .rw[Al hb,A9]
 rw[Bp hb,Ao]
 obtain⟨⟨s,n,ad,b⟩,e,⟨h1,ho⟩,hbl⟩:=A6e a zq0
 have hwb:wfB b.1:=hw _ e
 dsimp only at h1 ho hbl
 have hN:=h1.need
 rw[e,Ae]
 obtain⟨⟨f,ok,⟨⟩⟩,g1,_,⟨X,⟨os,⟨⟩⟩,⟨ns,⟨⟩⟩⟩,g3,⟨S1,S1b,S1c⟩,⟨S2a,S2b,S2⟩,_,_,_,S7⟩:=Bpg s n ad b ho zq0 ⟨hwb,by omega⟩ (fun x hx=>(h1.2.2.2.1.2 x hx).2.2)
 dsimp only at g3 S1 S1b S1c S2a S2b S2 S7
 have lX:X.2.2.2.2.2.1.length<=Br X:=by simp only[Br];omega
 obtain⟨_,_,_,_,a5,_,_⟩:=Eh.1 ho
 obtain⟨_,_,_,_,b5,_,_⟩:=Eh.1 S1
 obtain⟨c1,c2,_⟩:=Dd.1 a5
 obtain⟨d1,d2,_⟩:=Dd.1 b5
 rw[g3,Ae,Aqq s zq0,Ae,ho,Aqq X zq0,Ae,S1]
 dsimp only
 rw[Bo0 os S1b zq0,Ae,Bmz ns S1c zq0,Ae]
 simp only[Bool.not_true,Ao]
 obtain⟨s1,s2,s3,s4,s5,s6,s7,⟨⟩⟩:=s
 obtain⟨x1,x2,x3,x4,x5,x6,x7,⟨⟩⟩:=X
 dsimp only at c1 c2 d1 d2 lX ⊢
 have S7:Dt x7=Dt s7+En (x5,x6,()) os:=S7
 have n1:=A8r (x5,x6,()) os
 have n2:=Aq1 c2
 have n3:=Aq1 d2
 have e1:=Ct (B:=Ho) os.length (fun i=>(os,En (x5,x6,()) (os.take i),(0:Int),(0:Int),(i:Int),s1,s2,s3,s4,s5,s6,s7,x1,x2,x3,x4,x5,x6,x7,())) (En (x5,x6,()) os,(0:Int),(0:Int),s1,s2,s3,s4,s5,s6,s7,x1,x2,x3,x4,x5,x6,x7,())
  (fun i hi=>by
   have hx:=List.getElem?_eq_getElem hi
   have hfn:=Tq (S1b _ (List.getElem_mem hi)).1
   have m1:=A8r (x5,x6,()) (os.take i)
   have m2:(os.take i).length<=i:=by simp;omega
   rw[Avy hx,Aef]
   generalize os[i]=x at hx hfn
   have m3:=Ag9 (frO x)
   unfold Ho
   simp only[Af,Ag,Aa,Aj]
   rw[Al zq0,A9,B9 hx,Ae,Bch _ _ zq2,Ae,w64 (n:=(i:Int)+1) zq0]
   dsimp only[En]
   cases Aqh (x5,x6,()) (x.1,x.2.1,())with
   |true=>simp only[Bool.not_true,Ao,cond_true,Int.add_zero];rfl
   |false=>
    simp only[Bool.not_false,A9,cond_false,Int.add_zero,Ae]
    rw[Bhs x (Nat.le_trans hfn zq7),Ae,w64 (by unfold szO;omega)]
    rfl)
  (by
   rw[List.take_length]
   unfold Ho
   simp only[Af,Ag,Aa,Aj]
   rw[Bp zq0,Ao])
 rw[List.take_zero]at e1
 rw[show Ay Ho (os,(0:Int),(0:Int),(0:Int),(0:Int),s1,s2,s3,s4,s5,s6,s7,x1,x2,x3,x4,x5,x6,x7,())=_ from e1,Ae]
 dsimp only
 have e2:=Ct (B:=Hp) s7.length (fun i=>(En (x5,x6,()) os,Dt (s7.take i),(0:Int),(i:Int),s1,s2,s3,s4,s5,s6,s7,x1,x2,x3,x4,x5,x6,x7,())) (En (x5,x6,()) os,Dt s7,(0:Int),x1,x2,x3,x4,x5,x6,x7,())
  (fun i hi=>by
   have hx:=List.getElem?_eq_getElem hi
   have m0:=c2 _ (List.getElem_mem hi)
   have m1:=Aq1 (l:=s7.take i) (fun y hy=>c2 y (List.mem_of_mem_take hy))
   have m2:(s7.take i).length<=i:=by simp;omega
   rw[Avy hx,Ait]
   generalize s7[i]=x at hx m0
   obtain⟨_,m4,m5⟩:=m0
   unfold Hp
   simp only[Af,Ag,Aa,Aj]
   rw[Al zq0,A9,B9 hx,Ae,w64 (n:=(i:Int)+1) zq0,w64 zq0]
   simp only[Dt,Int.add_zero]
   rfl)
  (by
   rw[List.take_length]
   unfold Hp
   simp only[Af,Ag,Aa,Aj]
   rw[Bp zq0,Ao])
 rw[List.take_zero]at e2
 rw[show Ay Hp (En (x5,x6,()) os,(0:Int),(0:Int),(0:Int),s1,s2,s3,s4,s5,s6,s7,x1,x2,x3,x4,x5,x6,x7,())=_ from e2,Ae]
 dsimp only
 have e3:=Ct (B:=Hq) x7.length (fun i=>(En (x5,x6,()) os,Dt s7,Dt (x7.take i),(i:Int),x1,x2,x3,x4,x5,x6,x7,())) (.inr (En (x5,x6,()) os,Dt s7,Dt x7,()))
  (fun i hi=>by
   have hx:=List.getElem?_eq_getElem hi
   have m0:=d2 _ (List.getElem_mem hi)
   have m1:=Aq1 (l:=x7.take i) (fun y hy=>d2 y (List.mem_of_mem_take hy))
   have m2:(x7.take i).length<=i:=by simp;omega
   rw[Avy hx,Ait]
   generalize x7[i]=x at hx m0
   obtain⟨_,m4,m5⟩:=m0
   unfold Hq
   simp only[Af,Ag,Aa,Aj]
   rw[Al zq0,A9,B9 hx]
   simp only[Ae]
   rw[w64 (n:=3*x.2.2.1) zq0,Bp zq0,Ao,w64 (n:=(i:Int)+1) zq0,w64 zq0]
   simp only[Dt,Int.add_zero]
   rfl)
  (by
   rw[List.take_length]
   unfold Hq
   simp only[Af,Ag,Aa,Aj]
   rw[Bp zq0,Ao])
 rw[List.take_zero]at e3
 rw[show Ay Hq (En (x5,x6,()) os,Dt s7,(0:Int),(0:Int),x1,x2,x3,x4,x5,x6,x7,())=_ from e3,Ae]
 show some ((Dt x7==IntKind.i64.wrap (Dt s7+En (x5,x6,()) os)),())=some (true,())
 rw[w64 zq0,<-S7]
 simp
end
end Go.Proofs.YtnbbbaplphcebaaGreat

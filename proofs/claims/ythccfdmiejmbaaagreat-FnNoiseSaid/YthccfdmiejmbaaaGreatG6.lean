/-
  That the program and the reference answer alike, in plain terms, and that the laws answer true.
-/
import Derived.Test.YthccfdmiejmbaaaGreatG5
namespace Go.Proofs.YthccfdmiejmbaaaGreat
open Go.RowKit
set_option linter.unusedVariables false
set_option linter.unusedSimpArgs false
set_option maxRecDepth 100000
set_option maxHeartbeats 8000000
noncomputable section
def Bpg (l:List An) (a:A8):Int:=
 if Cr l=true then(if Df l a<0 then 0 else match l[(Df l a).toNat]? with|some x=>3*x.2.2.1-x.2.2.2.1|none=>0)else 0
theorem Bv1 (l:List An) (a:A8) (h:l.length<=1000):K6 (l,()) a=some (Bpg l a,()):=by
 unfold K6 Acu Bpg
 simp only[Af,Ah,Aa]
 rw[Aal l a zq0,Ac,Vj l zq0,Ac]
 cases e1:Cr l with
 |false=>rfl
 |true=>
  simp only[Bool.not_true,Ao]
  by_cases hneg:Df l a<0
  .rw[Ai hneg,if_pos hneg];rfl
  .obtain⟨x,hx,hi⟩:=Agv (l:=l) (a:=a) zq0
   obtain⟨_,q2,_⟩:=D3.1 e1
   obtain⟨_,g2,g3⟩:=q2 x (List.mem_of_getElem? hx)
   rw[Bt hneg,Ao,hi,if_neg hneg,hx]
   simp only[Ac]
   rw[w64 (n:=3*x.2.2.1) zq0,w64 zq0]
   rfl
theorem Bv2 (l:List An) (a:A8) (n:YI) (h:l.length<=1000):A5c (l,()) a n=some (Adg l a n.1,()):=by
 unfold A5c A4h Adg
 simp only[Af,Ah,Aa,Ak]
 rw[Afe l zq0,Ac,Vj l zq0,Ac,Ik,Ac,Cm,Ac,Aal l a zq0,Ac]
 by_cases hc:Cr l=true/\Cq a=true/\inR n.1 0 1000000=true
 .obtain⟨c1,c2,c3⟩:=hc
  have c4:=Bx.1 c3
  rw[if_pos ⟨c1,c2,c3⟩,c1,c2,c3]
  simp only[Bool.not_true,Ao]
  by_cases hneg:Df l a<0
  .rw[if_pos hneg,Bt zq0,Ao]
   have h8':=(D3.1 c1).1
   by_cases h8:l.length=8
   .rw[if_pos h8,Bt zq0];rfl
   .rw[if_neg h8,Ai zq0,A6,Ai zq1,Ay]
  .obtain⟨x,hx,hi⟩:=Agv (l:=l) (a:=a) zq0
   obtain⟨_,q2,_⟩:=D3.1 c1
   obtain⟨_,g2,_⟩:=q2 x (List.mem_of_getElem? hx)
   rw[if_neg hneg,Ai zq0,A6,hi,hx]
   simp only[Ac]
   rw[w64 zq0]
 .rw[if_neg hc]
  cases e1:Cr l with
  |false=>rfl
  |true=>
   cases e2:Cq a with
   |false=>rfl
   |true=>
    cases e3:inR n.1 0 1000000 with
    |false=>rfl
    |true=>exact(hc ⟨e1,e2,e3⟩).elim
theorem Bt4 (l:List An) (a:A8) (n:YI) (h:l.length<=1000):Azn (l,()) a n=some (match Vm l a n.1 with|some r=>((r,()),(true,()))|none=>((l,()),(false,()))):=by
 unfold Azn Ay0
 simp only[Af,Ah,Aa,Ak]
 rw[Afe l zq0,Ac,Aal l a zq0,Ac,Vj l zq0,Ac,Bv1 l a h,Ac,Cm,Ac]
 unfold Vm Bpg
 cases e1:Cr l with
 |false=>rw[if_neg zq3];rfl
 |true=>
  simp only[Bool.not_true,Ao]
  by_cases hneg:Df l a<0
  .rw[Ai hneg,A6,if_neg zq0]
  .obtain⟨x,hx,hi⟩:=Agv (l:=l) (a:=a) zq0
   obtain⟨_,q2,_⟩:=D3.1 e1
   obtain⟨_,g2,g3⟩:=q2 x (List.mem_of_getElem? hx)
   simp only[true_and,if_true]
   rw[Bt hneg,Ao,if_neg hneg,if_pos (show 0<=Df l a by omega),hx,hi]
   simp only[Ac]
   cases hn:inR n.1 0 (3*x.2.2.1-x.2.2.2.1)with
   |false=>rfl
   |true=>
    have:=Bx.1 hn
    rw[w64 zq0]
    rfl
theorem Bt5 (f:Ap) (h:Av f<=536870912):Af8 f=some (((D8 f).length:Int),()):=by
 unfold Af8 As1
 simp only[Ah,Aa]
 rw[Aub f h];rfl
theorem Bt6 (f:Ap) (h:Av f<=536870912):Agb f=some (((D8 f).length:Int),()):=by
 unfold Agb As9
 simp only[Ah,Aa]
 rw[Aua f h];rfl
def Aas (a:A8) (id:Int) (cn sn:List YB) (t:Int):List YB:=cat [(([((99:Int),())]++F9 a.1 4 4)++F9 a.2.1 2 2,()),([(IntKind.u8.wrap id,())],()),(cn,()),(sn,()),(([]:List YB)++F9 t 4 4,())]
theorem Nh {a:A8} {id:Int} {cn sn:List YB} {t:Int} (h1:cn.length=12) (h2:sn.length=12):(Aas a id cn sn t).length=36:=by
 unfold Aas
 simp[cat,Fi,h1,h2]
theorem Ab5 (a:A8) (id:Int) (cn sn:List YB) (t:Int) (ha:Cq a=true) (hi:inR id 1 9=true) (h1:cn.length=12) (h2:sn.length=12) (ht:inR t 0 1000000=true):Sw a (id,()) (cn,()) (sn,()) (t,())=some (Aas a id cn sn t,()):=by
 unfold Sw Ah1 A27 Amo
 simp only[Af,Ah,Aa,Ak,Ik,Cm,Hz,Ac,ha,h1,h2,hi,ht,Bool.not_true,Ao]
 rw[show((((12:Nat):Int))==(12:Int))=true by decide]
 simp only[Bool.not_true,Ao]
 rw[Ov _ _ zq3]
 simp only[Ac]
 rw[Bvx _ _ (by simp[Fi])]
 simp only[Ac]
 rw[Ov _ _ zq3]
 simp only[Ac]
 rw[Hv _ (by have:=Nh (a:=a) (id:=id) (t:=t) h1 h2;unfold Aas at this;omega) zq3]
 rfl
theorem Aux (a:A8) (id:Int) (cn sn:List YB) (t:Int) (ha:Cq a=true) (hi:inR id 1 9=true) (h1:cn.length=12) (h2:sn.length=12) (ht:inR t 0 1000000=true):Jl a (id,()) (cn,()) (sn,()) (t,())=some (Aas a id cn sn t,()):=by
 unfold Jl Zb A25 Amd
 simp only[Af,Ah,Aa,Ak,Il,Cy,Ac,ha,h1,h2,hi,ht,Bool.not_true,Ao]
 rw[show((((12:Nat):Int)) != (12:Int))=false by decide]
 simp only[Bool.not_true,Ao]
 rw[Lo _ _ zq3]
 simp only[Ac]
 rw[Bvy _ _ (by simp[Fi])]
 simp only[Ac]
 rw[Ai (by simp[Fi]),Ay,Ai (by simp[Fi,h1]),Ay,Ai (by simp[Fi,h1,h2]),Ay,Lo _ _ (by simp[Fi,h1,h2])]
 simp only[Ac]
 unfold Aas
 simp[cat]
def Apv (j:List YB) (a:A8) (id:Int) (cn sn:List YB) (t:Int):List YB:=Ur j (Aas a id cn sn t)
theorem A9a {j:List YB} {a:A8} {id:Int} {cn sn:List YB} {t:Int} (hj:j.length=32) (h1:cn.length=12) (h2:sn.length=12):(Apv j a id cn sn t).length=16:=by
 have hb:=Nh (a:=a) (id:=id) (t:=t) h1 h2
 have h:=Rc j (Aas a id cn sn t) zq0 zq0
 unfold Apv Ur
 rw[List.length_take];omega
theorem Aje (j:List YB) (a:A8) (id:Int) (cn sn:List YB) (t:Int) (hj:j.length=32) (ha:Cq a=true) (hi:inR id 1 9=true) (h1:cn.length=12) (h2:sn.length=12) (ht:inR t 0 1000000=true):Atv (j,()) a (id,()) (cn,()) (sn,()) (t,())=some (Apv j a id cn sn t,()):=by
 have hb:=Nh (a:=a) (id:=id) (t:=t) h1 h2
 unfold Atv A4r
 simp only[Af,Ah,Aa,Ak]
 rw[Ab5 a id cn sn t ha hi h1 h2 ht,Ac,A1c,Ac]
 simp only[hj,hb]
 rw[show((((32:Nat):Int))==(32:Int))=true by decide,show((((36:Nat):Int))==(0:Int))=false by decide]
 simp only[Bool.not_true,Ao]
 rw[Bf1,Ac];rfl
theorem A5t (j:List YB) (a:A8) (id:Int) (cn sn:List YB) (t:Int) (hj:j.length=32) (ha:Cq a=true) (hi:inR id 1 9=true) (h1:cn.length=12) (h2:sn.length=12) (ht:inR t 0 1000000=true):Sr (j,()) a (id,()) (cn,()) (sn,()) (t,())=some (Apv j a id cn sn t,()):=by
 have hb:=Nh (a:=a) (id:=id) (t:=t) h1 h2
 unfold Sr Arl
 simp only[Af,Ah,Aa,Ak]
 rw[Aux a id cn sn t ha hi h1 h2 ht,Ac,Apn,Ac]
 simp only[hj,hb]
 rw[show((((32:Nat):Int))==(32:Int))=true by decide,show((((36:Nat):Int))==(0:Int))=false by decide]
 simp only[Bool.not_true,Ao]
 rw[Bf2,Ac];rfl
def Apw (n t:Int):Bool:=inR n 0 1000000 && (inR t 0 1000000 && inR (IntKind.i64.wrap (n-t)) 0 10)
theorem Bms (n t:YI):Azj n t=some (Apw n.1 t.1,()):=by
 unfold Azj Ayp Apw
 simp only[Af,Ah,Aa,Cm,Ac]
 cases inR n.1 0 1000000<;>cases inR t.1 0 1000000<;>rfl
theorem Bv3 (n t:YI):Azo n t=some (Apw n.1 t.1,()):=by
 unfold Azo Ay3 Apw
 simp only[Af,Ah,Aa,Cy,Ac]
 cases inR n.1 0 1000000<;>cases inR t.1 0 1000000<;>rfl
theorem Pd {f:Ap} (h:Bu f=true) (hk:f.1=3):inR f.2.1 1 9=true/\f.2.2.1.length=12/\f.2.2.2.1.length=12/\inR f.2.2.2.2.1 0 1000000=true/\f.2.2.2.2.2.1.length=16/\f.2.2.2.2.2.2.1.length=16:=by
 unfold Bu at h
 simp only[hk,show inR (3:Int) 4 8=false by decide,show((3:Int)==1)=false by decide,show((3:Int)==2)=false by decide,cond_false,Bool.and_eq_true,beq_iff_eq]at h
 obtain⟨h1,h2,h3,h4,h5,h6,h7,h8,h9,h10,h11⟩:=h
 exact⟨h7,by omega,by omega,h9,by omega,by omega⟩
theorem Auy {f:Ap} (h:Bu f=true) (hk:f.1=1):inR f.2.1 1 9=true/\f.2.2.1.length=12:=by
 unfold Bu at h
 simp only[hk,show inR (1:Int) 4 8=false by decide,show((1:Int)==1)=true by decide,cond_false,cond_true,Bool.and_eq_true,beq_iff_eq]at h
 obtain⟨h1,h2,h3,h4,h5,h6,h7⟩:=h
 exact⟨h6,by omega⟩
theorem Bt7 (j:List YB) (n:YI) (a:A8) (f:Ap): ∃k,Ad0 (j,()) n a f=some (k,())/\Azp (j,()) n a f=some (k,())/\(k=0->j.length=32/\inR n.1 0 1000000=true/\Cq a=true/\f.1=3/\Bu f=true):=by
 unfold Ad0 Akb Azp Ay4
 simp only[Af,Ah,Aa,Ak,A1c,Apn,Cm,Cy,Ik,Il,Jq,Jp,Bms,Bv3,Ac]
 cases e1:((j.length:Int)==32)with
 |false=>exact⟨1,rfl,rfl,fun h=>by cases h⟩
 |true=>
 cases e2:inR n.1 0 1000000 with
 |false=>exact⟨1,rfl,rfl,fun h=>by cases h⟩
 |true=>
 cases e3:Cq a with
 |false=>exact⟨1,rfl,rfl,fun h=>by cases h⟩
 |true=>
 simp only[Bool.not_true,Ao]
 cases e4:(f.1 != (3:Int))with
 |true=>
  cases Bu f with
  |false=>exact⟨1,rfl,rfl,fun h=>by cases h⟩
  |true=>exact⟨1,rfl,rfl,fun h=>by cases h⟩
 |false=>
 cases e5:Bu f with
 |false=>exact⟨1,rfl,rfl,fun h=>by cases h⟩
 |true=>
 simp only[Bool.not_true,Ao]
 cases e6:Apw n.1 f.2.2.2.2.1 with
 |false=>exact⟨9,rfl,rfl,fun h=>by cases h⟩
 |true=>
 have hj:j.length=32:=by simp only[beq_iff_eq]at e1;omega
 have hk:f.1=3:=by simpa using e4
 obtain⟨c1,c2,c3,c4,c5,c6⟩:=Pd e5 hk
 rw[Aje j a f.2.1 f.2.2.1 f.2.2.2.1 f.2.2.2.2.1 hj e3 c1 c2 c3 c4,A5t j a f.2.1 f.2.2.1 f.2.2.2.1 f.2.2.2.2.1 hj e3 c1 c2 c3 c4]
 simp only[Bool.not_true,Ao,Ac]
 obtain⟨r,r1,r2⟩:=Agf f.2.2.2.2.2.1 (Apv j a f.2.1 f.2.2.1 f.2.2.2.1 f.2.2.2.2.1) zq0
 rw[r1,r2]
 simp only[Ac]
 cases r with
 |false=>exact⟨2,rfl,rfl,fun h=>by cases h⟩
 |true=>exact⟨0,rfl,rfl,fun _=>⟨hj,trivial,trivial,hk,trivial⟩⟩
theorem Bph (p:List YB) (f:Ap): ∃k,Ve (p,()) f=some (k,())/\Anh (p,()) f=some (k,()):=by
 unfold Ve Acy Anh Am0
 simp only[Af,Ah,Aa,Ak,Jq,Jp,Bmq,Bbg,Ac]
 cases e1:(f.1==(3:Int))with
 |false=>
  have:(f.1 != (3:Int))=true:=by simp only[bne,e1];rfl
  first|exact⟨false,rfl,rfl⟩|(cases Bu f<;>exact⟨false,rfl,rfl⟩)|(rw[this];cases Bu f<;>exact⟨false,rfl,rfl⟩)
 |true=>
 have hne:(f.1 != (3:Int))=false:=by simp only[bne,e1];rfl
 cases e5:Bu f with
 |false=>first|exact⟨false,rfl,rfl⟩|(rw[hne];exact⟨false,rfl,rfl⟩)
 |true=>
 obtain⟨c1,c2,c3,c4,c5,c6⟩:=Pd e5 (by simpa using e1)
 obtain⟨r,r1,r2⟩:=Agf f.2.2.2.2.2.2.1 (Ad7 p f.2.1 f.2.2.1 f.2.2.2.1 f.2.2.2.2.1 f.2.2.2.2.2.1) zq0
 rw[r1,r2]
 first|exact⟨r,rfl,rfl⟩|(rw[hne];exact⟨r,rfl,rfl⟩)
theorem Bxb (a b:List YB) (h:a.length<=4294967296): ∃r,Rb (a,()) (b,())=some (r,()):=by
 obtain⟨r,r1,_⟩:=Agf a b h
 exact⟨r,r1⟩
theorem Bt8 (j:List YB) (n:YI) (a:A8) (f:Ap): ∃k,Ad0 (j,()) n a f=some (k,())/\(k=0->j.length=32/\inR n.1 0 1000000=true/\Cq a=true/\f.1=3/\Bu f=true):=by
 unfold Ad0 Akb
 simp only[Af,Ah,Aa,Ak,A1c,Cm,Ik,Jq,Bms,Ac]
 cases e1:((j.length:Int)==32)with
 |false=>exact⟨1,rfl,fun h=>by cases h⟩
 |true=>
 cases e2:inR n.1 0 1000000 with
 |false=>exact⟨1,rfl,fun h=>by cases h⟩
 |true=>
 cases e3:Cq a with
 |false=>exact⟨1,rfl,fun h=>by cases h⟩
 |true=>
 cases e4:(f.1 != (3:Int))with
 |true=>exact⟨1,rfl,fun h=>by cases h⟩
 |false=>
 cases e5:Bu f with
 |false=>exact⟨1,rfl,fun h=>by cases h⟩
 |true=>
 cases e6:Apw n.1 f.2.2.2.2.1 with
 |false=>exact⟨9,rfl,fun h=>by cases h⟩
 |true=>
 have hj:j.length=32:=by simp only[beq_iff_eq]at e1;omega
 have hk:f.1=3:=by simpa using e4
 obtain⟨c1,c2,c3,c4,c5,c6⟩:=Pd e5 hk
 rw[Aje j a f.2.1 f.2.2.1 f.2.2.2.1 f.2.2.2.2.1 hj e3 c1 c2 c3 c4]
 simp only[Bool.not_true,Ao,Ac]
 obtain⟨r,r1⟩:=Bxb f.2.2.2.2.2.1 (Apv j a f.2.1 f.2.2.1 f.2.2.2.1 f.2.2.2.2.1) zq0
 rw[r1]
 simp only[Ac]
 cases r with
 |false=>exact⟨2,rfl,fun h=>by cases h⟩
 |true=>exact⟨0,rfl,fun _=>⟨hj,trivial,trivial,hk,trivial⟩⟩
theorem Bpi (p:List YB) (f:Ap): ∃k,Ve (p,()) f=some (k,()):=by
 unfold Ve Acy
 simp only[Af,Ah,Aa,Ak,Jq,Bmq,Ac]
 cases e1:(f.1==(3:Int))with
 |false=>exact⟨false,rfl⟩
 |true=>
 cases e5:Bu f with
 |false=>exact⟨false,rfl⟩
 |true=>
 obtain⟨c1,c2,c3,c4,c5,c6⟩:=Pd e5 (by simpa using e1)
 obtain⟨r,r1⟩:=Bxb f.2.2.2.2.2.2.1 (Ad7 p f.2.1 f.2.2.1 f.2.2.2.1 f.2.2.2.2.1 f.2.2.2.2.2.1) zq0
 rw[r1]
 exact⟨r,rfl⟩
theorem Bd5 {s:Al} (h:SP 40000 s):s.2.1.length<=40000/\s.2.2.1.length<=40000/\A9 (Cj s)<=40000/\Bd (Bm s)<=40000:=by
 have:=Py s
 have:=h.1
 exact⟨by omega,by omega,by omega,by omega⟩
theorem Bfw {b:List YB} {a0:Aw} (s:Al) (hc:B0 b a0) (h:SP 40000 s):Tot (fun r=>(Av r.2.1<=90000/\wfB r.2.1.2.2.2.1)/\B0 b r.2.2) (Air a0 s):=by
 obtain⟨k1,k2,k3,k4⟩:=Bd5 h
 have fin: ∀(c:Aw) (F:Ap) (X:A8),Av F<=90000/\wfB F.2.2.2.1->B0 b c->c.1=a0.1->
   Tot (fun r:A8×Ap×Aw=>(Av r.2.1<=90000/\wfB r.2.1.2.2.2.1)/\B0 b r.2.2) (ob (Ax c ((12:Int),())) fun r=>br r.1.1 (ob (E7 (a0.1,r.2.2.1,r.2.2.2.1,())) fun q=>some (q.1,F,(a0.1,q.2.2.1,q.2.2.2.1,()))) (some (X,F,(a0.1,r.2.2.1,r.2.2.2.1,())))):=fun c F X hF hcc e=>by
  refine Ae (Ba _ hcc zq7) (fun r hr=>?_)
  refine Am (fun _=>?_) (fun _=>Ag ⟨hF,Ab hc hr⟩)
  exact Ae (Ad8 (Ab hc hr)) (fun q hq=>Ag ⟨hF,Ab hc hq⟩)
 have sli: ∀(k:YBs) (r ep seq kind:YI) (p:YBs),p.1.length<=40000->Tot (fun q=>Av q.1<=90000/\wfB q.1.2.2.2.1) (B6 k r (s.2.2.1,()) ep seq kind p):=fun k r ep seq kind p hp=>
  (C5 k r (s.2.2.1,()) ep seq kind p zq2 zq0).mono (fun q hq=>⟨Nat.le_trans hq.1 zq2,hq.2 h.2.1⟩)
 have hfr:=fun(c:Aw) (hcc:B0 b c)=>(Bik (Cj s) hcc zq0 h.2.2).mono (fun r hr=>(⟨⟨Nat.le_trans hr.1.1 zq0,hr.1.2⟩,hr.2⟩:(Av r.1<=90000/\wfB r.1.2.2.2.1)/\B0 b r.2))
 unfold Air Ahh
 simp only[Af,Ah,Aa,Ak]
 refine Ae (Ba _ hc zq7) (fun r1 h1c=>?_)
 refine Am (fun _=>Ae (Bj _ (Ab hc h1c) zq7) (fun r2 ⟨_,h2c⟩=>Ae (Wx _) (fun r3 _=>Ae (hfr _ (Ab hc h2c)) (fun r4 ⟨h4,h4c⟩=>?_)))) (fun _=>Ae (hfr _ (Ab hc h1c)) (fun r4 ⟨h4,h4c⟩=>?_))
 all_goals
  refine Ae (Bj _ (Ab hc h4c) zq7) (fun r5 ⟨_,h5c⟩=>?_)
  refine Am (fun _=>?_) (fun _=>Am (fun _=>Am (fun _=>?_) (fun _=>?_)) (fun _=>fin _ _ _ h4 (Ab hc h5c) rfl))
  .refine Am (fun hb=>?_) (fun _=>fin _ _ _ h4 (Ab hc h5c) rfl)
   have hb:=of_decide_eq_true hb
   have hl:(Bm s).2.2.1.length<=40000:=Nat.le_trans (by simp only[Bd];omega) k4
   refine Ae (Bj _ (Ab hc h5c) (by dsimp only at hl ⊢;omega)) (fun r6 ⟨⟨h6,h6b⟩,h6c⟩=>?_)
   dsimp only at h6b
   refine Ae (E9 (P:=fun e=>e.2.2.1.length<=40000) h6 zq0 (fun x hx=>?_)) (fun e he=>?_)
   .have:=Tb (f:=D0) hx
    have k4':(Bm s).2.2.1.length+Br D0 (Bm s).2.2.1<=40000:=k4
    simp only[D0]at this
    dsimp only at k4'
    omega
   .exact Ae (sli _ _ _ _ _ _ he) (fun q hq=>fin _ _ _ hq (Ab hc h6c) rfl)
  .refine Ae (Ba _ (Ab hc h5c) zq7) (fun r6 h6c=>?_)
   refine Am (fun _=>?_) (fun _=>?_)
   .exact Ae (Aff _) (fun r7 h7=>Ae (sli _ _ _ _ _ _ zq0) (fun q hq=>fin _ _ _ hq (Ab hc h6c) rfl))
   .exact Ae (Aff _) (fun r7 h7=>Ae (sli _ _ _ _ _ _ zq0) (fun q hq=>fin _ _ _ hq (Ab hc h6c) rfl))
  .exact Ae (Aff _) (fun r7 h7=>Ae (sli _ _ _ _ _ _ zq0) (fun q hq=>fin _ _ _ hq (Ab hc h5c) rfl))
theorem Bfx (p:YBs) (id:YI) (f:Ap) (h:Av f<=200000):Tot (fun r=>Av r.1<=Av f+100/\(wfB f.2.2.2.1->wfB r.1.2.2.2.1)) (Lx p id f):=by
 unfold Lx Xx
 simp only[Af,Ah,Aa,Ak]
 rw[Jp,Ac]
 refine Am (fun _=>Ag ⟨by simp[Av],fun _=>Hb⟩) (fun _=>?_)
 refine Am (fun _=>Ag ⟨by simp[Av],fun _=>Hb⟩) (fun _=>?_)
 have hp:=Bdy p.1 id.1 f.2.2.1 f.2.2.2.1 f.2.2.2.2.1 f.2.2.2.2.2.1
 rw[show W7 p id (f.2.2.1,()) (f.2.2.2.1,()) (f.2.2.2.2.1,()) (f.2.2.2.2.2.1,())=_ from Bbg p.1 id.1 _ _ _ _,Ac]
 refine Am (fun _=>Ag ⟨by simp[Av],fun _=>Hb⟩) (fun _=>?_)
 rw[A5o _ zq0,Ac]
 simp only[Av]at h
 exact Ag ⟨by simp only[Av,List.length_nil];omega,fun h=>h⟩
theorem Bt9 (j:YBs) (a:A8) (id:YI) (cn sn:YBs) (t:YI):Tot (fun r=>r.1.length<=16) (Sr j a id cn sn t):=by
 obtain⟨j,⟨⟩⟩:=j;obtain⟨id,⟨⟩⟩:=id;obtain⟨cn,⟨⟩⟩:=cn;obtain⟨sn,⟨⟩⟩:=sn;obtain⟨t,⟨⟩⟩:=t
 by_cases hg:j.length=32/\Cq a=true/\inR id 1 9=true/\cn.length=12/\sn.length=12/\inR t 0 1000000=true
 .obtain⟨g1,g2,g3,g4,g5,g6⟩:=hg
  rw[A5t j a id cn sn t g1 g2 g3 g4 g5 g6]
  exact Ag (by dsimp only;rw[A9a g1 g4 g5];exact Nat.le_refl _)
 .unfold Sr Arl
  simp only[Af,Ah,Aa,Ak]
  have nil:Jl a (id,()) (cn,()) (sn,()) (t,())=some (([]:List YB),())\/((j.length:Int)==32)=false/\Tot (fun _=>True) (Jl a (id,()) (cn,()) (sn,()) (t,())):=by
   by_cases hb:Cq a=true/\inR id 1 9=true/\cn.length=12/\sn.length=12/\inR t 0 1000000=true
   .obtain⟨g2,g3,g4,g5,g6⟩:=hb
    refine .inr ⟨?_,by rw[Aux a id cn sn t g2 g3 g4 g5 g6];exact Ag trivial⟩
    cases e:((j.length:Int)==32)with
    |false=>rfl
    |true=>exact(hg ⟨by simp only[beq_iff_eq]at e;omega,g2,g3,g4,g5,g6⟩).elim
   .left
    unfold Jl Zb
    simp only[Af,Ah,Aa,Ak,Il,Cy,Ac]
    cases e1:Cq a with
    |false=>rfl
    |true=>
    cases e2:inR id 1 9 with
    |false=>rfl
    |true=>
    cases e3:((cn.length:Int) != 12)with
    |true=>rfl
    |false=>
    cases e4:((sn.length:Int) != 12)with
    |true=>rfl
    |false=>
    cases e5:inR t 0 1000000 with
    |false=>rfl
    |true=>
     have e3:(cn.length:Int)=12:=by simpa using e3
     have e4:(sn.length:Int)=12:=by simpa using e4
     exact(hb ⟨e1,e2,by omega,by omega,e5⟩).elim
  rcases nil with n1|⟨n1,r,n2,_⟩
  .rw[n1,Ac,Apn,Ac]
   refine Am (fun _=>Ag zq3) (fun _=>?_)
   exact Ag zq3
  .rw[n2,Ac,Apn,Ac]
   dsimp only
   rw[n1]
   exact Ag zq3
theorem Bis (f:Ap):(D8 f).length<=300:=by
 unfold D8
 cases h:Bu f with
 |false=>simp
 |true=>
  have hn:=Kx h
  simp only[Av]at hn
  simp only[Bool.not_true,cond_false]
  cases f.1==1<;>cases f.1==2<;>cases f.1==3<;>simp only[cond_true,cond_false,List.length_cons,List.length_append,List.length_replicate,Fi]<;>omega
theorem A0h (f:Ap) (h:Av f<=536870912):Tot (fun r=>r.1.length<=300) (Ft f):=by
 rw[Aua f h];exact Ag (Bis f)
theorem w1m {x:Int} (h:0<=x/\x<=1000):IntKind.i64.wrap (IntKind.i64.wrap (1+x)-1)=x:=by
 rw[w64 (n:=1+x) zq0,w64 zq0];omega
theorem w1p {x:Int} (h:0<=x/\x<=1000):IntKind.i64.wrap (1+x)=1+x:=w64 zq0
def Bpj (a0:Aw) (r2:A8) (n:YI) (c:Aw) (f:YBs):Option (YI×A8×YBs×Aw):=ob (Ax c ((3:Int),())) fun r33=>br r33.1.1 (ob (Ks (a0.1,r33.2.2.1,r33.2.2.2.1,()) f) fun r34=>ob (Bp (a0.1,r34.2.2.1,r34.2.2.2.1,()) ([((0:Int),()),((0:Int),()),((0:Int),()),((10:Int),()),((11:Int),())],())) fun r35=>some (((IntKind.i64.wrap (n.1+r35.1.1)),()),r2,r34.1,(a0.1,r35.2.2.1,r35.2.2.2.1,()))) (ob (Bp (a0.1,r33.2.2.1,r33.2.2.2.1,()) ([((0:Int),()),((0:Int),()),((0:Int),()),((10:Int),()),((11:Int),())],())) fun r36=>some (((IntKind.i64.wrap (n.1+r36.1.1)),()),r2,f,(a0.1,r36.2.2.1,r36.2.2.2.1,())))
theorem Bit {b:List YB} {a0:Aw} (s:Bc) (hc:B0 b a0) (h:SvP s):Tot (fun r=>r.2.2.1.1.length<=1000/\B0 b r.2.2.2) (Ais a0 s):=by
 obtain⟨p1,p2,p3,p4,p5⟩:=h
 have hl:=p4.1
 dsimp only at hl
 have hps:=p1.1
 unfold Ais Ahi
 try unfold A5b
 try unfold Pp
 simp only[Af,Ah,Aa,Ak]
 have bel: ∀(n:Nat) (x:Int),0<=x->(x<(n:Int)\/x=0)->n<=1000->0<=x/\x<=1000:=fun n x h0 h1 h2=>by omega
 refine Ae (Bj _ hc zq7) (fun r1 ⟨_,h1c⟩=>Ae (Wx _) (fun r2 _=>Ae (Is _ (Ab hc h1c) zq7) (fun r3 h3c=>Ae (Bj _ (Ab hc h3c) zq7) (fun r4 ⟨_,h4c⟩=>?_))))
 have fin: ∀(c:Aw) (n:YI) (f:YBs),B0 b c->c.1=a0.1->f.1.length<=300->Tot (fun r:YI×A8×YBs×Aw=>r.2.2.1.1.length<=1000/\B0 b r.2.2.2) (Bpj a0 r2 n c f):=fun c n f hcc _ hf=>by
  unfold Bpj
  refine Ae (Ba _ hcc zq7) (fun r33 h33=>Am (fun _=>?_) (fun _=>?_))
  .refine Ae (Uj _ (Ab hc h33) zq0) (fun r34 ⟨⟨h34,_⟩,h34c⟩=>Ae (Is _ (Ab hc h34c) zq7) (fun r35 h35=>Ag ⟨by dsimp only;omega,Ab hc h35⟩))
  .exact Ae (Is _ (Ab hc h33) zq7) (fun r35 h35=>Ag ⟨by dsimp only;omega,Ab hc h35⟩)
 have mk: ∀(e:YBs) (id:YI) (cn sn:List YB) (t:YI) (c:Aw) (n:YI),cn.length<=40000->sn.length<=40000->B0 b c->c.1=a0.1->Tot (fun r:YI×A8×YBs×Aw=>r.2.2.1.1.length<=1000/\B0 b r.2.2.2) (ob (Sr (s.2.1,()) r2 id (cn,()) (sn,()) t) fun r16=>ob (Lx e id ((2:Int),(0:Int),cn,sn,t.1,r16.1,([]:List YB),(0:Int),(0:Int),([]:List YB),([]:List YB),())) fun r17=>ob (Ft r17.1) fun f=>Bpj a0 r2 n c f):=fun e id cn sn t c n hcn hsn hcc e1=>by
  refine Ae (Bt9 _ _ _ _ _ _) (fun r16 h16=>Ae (Bfx _ _ _ (by simp only[Av,List.length_nil];omega)) (fun r17 ⟨h17,_⟩=>Ae (A0h _ ?_) (fun f hf=>fin c n f hcc e1 hf)))
  simp only[Av,List.length_nil]at h17 ⊢
  omega
 have by12: ∀c,B0 b c->Tot (fun r=>r.1.1.length<=40000/\B0 b r.2) (Ci c ((12:Int),())):=fun c hcc=>(De _ hcc zq7).mono fun r ⟨⟨h1,_⟩,h2⟩=>⟨by have h1:r.1.1.length=12:=h1;omega,h2⟩
 have byN: ∀c (n:YI),B0 b c->(0<=n.1/\(n.1<80\/n.1=0))->Tot (fun r=>r.1.1.length<=1000/\B0 b r.2) (Ci c n):=fun c n hcc hn=>(De _ hcc zq0).mono fun r ⟨⟨h1,_⟩,h2⟩=>⟨by omega,h2⟩
 have sesI: ∀(x:Int),(0<=x/\(x<(s.2.2.2.2.2.1.length:Int)\/x=0))->decide ((s.2.2.2.2.2.1.length:Int)>(0:Int))=true->Tot (fun e=>e.2.1.length<=40000/\e.2.2.1.length<=40000/\SP 40000 e) (idx s.2.2.2.2.2.1 x):=fun x hx hp=>by
  have hp:=of_decide_eq_true hp
  refine E9 hx.1 zq0 (fun e he=>?_)
  have:=Bd5 (p4.2 e he)
  exact⟨this.1,this.2.1,p4.2 e he⟩
 have pskI: ∀(x:Int),(0<=x/\(x<3\/x=0))->decide (IntKind.i64.wrap (1+x)<=(s.1.length:Int))=true->Tot (fun _=>True) (idx s.1 (IntKind.i64.wrap (IntKind.i64.wrap (1+x)-1))):=fun x hx hp=>by
  have hp:=of_decide_eq_true hp
  rw[w1p zq0]at hp
  rw[w1m zq0]
  exact E9 hx.1 zq0 (fun _ _=>trivial)
 repeat' first
  |exact mk _ _ _ _ _ _ _ Ku Ku (by first|assumption|exact Ab hc Ku) rfl
  |refine Ae (Ba (b:=b) _ (by first|assumption|exact Ab hc Ku) zq7) (fun r h=>?_)
  |refine Ae (by12 _ (by first|assumption|exact Ab hc Ku)) (fun r ⟨_,_⟩=>?_)
  |refine Ae (Bj (b:=b) _ (by first|assumption|exact Ab hc Ku) (by first|decide|(dsimp only;omega))) (fun r ⟨_,_⟩=>?_)
  |refine Ae (pskI _ Ku Ku) (fun _ _=>?_)
  |refine Ae (sesI _ Ku Ku) (fun e ⟨_,_,_⟩=>?_)
  |refine Ae (Bfw (b:=b) _ (by first|assumption|exact Ab hc Ku) Ku) (fun r ⟨⟨_,_⟩,_⟩=>?_)
  |refine Ae (Is (b:=b) _ (by first|assumption|exact Ab hc Ku) zq7) (fun r h=>?_)
  |refine Ae (A0h _ (by first|omega|(simp only[Av,List.length_nil];omega))) (fun r h=>?_)
  |refine Ae (byN _ _ (by first|assumption|exact Ab hc Ku) Ku) (fun r ⟨_,_⟩=>?_)
  |refine Am (fun _=>?_) (fun _=>?_)
  |exact Ag ⟨by dsimp only;omega,(by first|assumption|exact Ab hc Ku)⟩
theorem A0i (a0:YBs) (hl:a0.1.length<=1048576):Tot (fun r=>SvP r.1/\r.2.2.2.1.length<=1000) (Hy a0):=by
 unfold Hy Mu
 simp only[Af,Ah,Aa,Ak]
 refine Ae (Bry _ hl) (fun c hc=>Ae (Bpc hc) (fun r2 ⟨h2,h2c⟩=>Ae (Bit _ (Ab hc h2c) h2) (fun r3 ⟨h3,h3c⟩=>?_)))
 repeat' first
  |exact Ag ⟨h2,h3⟩
  |refine Ae (Ba (b:=a0.1) _ (by first|assumption|exact Ab hc Ku) zq7) (fun r h=>?_)
  |refine Ae (Bd0 (b:=a0.1) (by first|assumption|exact Ab hc Ku)) (fun r h=>?_)
  |refine Ae (Ad8 (b:=a0.1) (by first|assumption|exact Ab hc Ku)) (fun r h=>?_)
  |refine Am (fun _=>?_) (fun _=>?_)
theorem Ajf: ∀ {l:List Al} {i:Nat} {x y:Al},l[i]? =some x->Dd y=Dd x->Fx (l.set i y)=Fx l
 |[],i,x,y,h,_=>by simp at h
 |a::r,0,x,y,h,e=>by
  simp at h;subst h
  simp only[List.set_cons_zero,Fx,List.countP_cons,e]
 |a::r,i+1,x,y,h,e=>by
  have:=Ajf (l:=r) (i:=i) (x:=x) (y:=y) (by simpa using h) e
  simp only[List.set_cons_succ,Fx,List.countP_cons]at this ⊢
  omega
theorem A3m {E:Type} {f:E->Nat} {K:Nat}: ∀ {l:List E} {i:Nat} {x y:E},l[i]? =some x->f y<=f x+K->Br f (l.set i y)<=Br f l+K
 |[],i,x,y,h,_=>by simp at h
 |a::r,0,x,y,h,e=>by
  simp at h;subst h
  simp only[List.set_cons_zero,Br];omega
 |a::r,i+1,x,y,h,e=>by
  have:=A3m (l:=r) (i:=i) (x:=x) (y:=y) (by simpa using h) e
  simp only[List.set_cons_succ,Br];omega
theorem Bf3 {t:Ck} {n:Int} {x y:Al} (hn:Cf t+A5 y<=1073741824) (ht:Je t=true) (h0:0<=n) (hx:t.2.1[n.toNat]? =some x) (ho:Dk y=true) (hs:y.2.2.1=x.2.2.1) (hd:Dd y=Dd x):
  Ho t (n,()) y=some ((t.1,t.2.1.set n.toNat y,()),(true,()))/\Je (t.1,t.2.1.set n.toNat y,())=true/\E0 (t.1,t.2.1.set n.toNat y,())=E0 t:=by
 have hl:t.2.1.length<=Cf t:=by simp only[Cf];omega
 have h1:=Bdt zq0 ht hx ho hs (.inr hd)
 refine⟨Boo t (n,()) y x hn ht h0 hx h1,h1,?_⟩
 rw[Kw _ zq1,Kw t zq0]
 rw[show Fx (t.1,t.2.1.set n.toNat y,()).2.1=Fx t.2.1 from Ajf hx hd]
def Agw (b:List YB):Aq:=((14:Int),(0:Int),(0:Int),([]:List YB),([]:List YB),(0:Int),(0:Int),b,([]:List YB),(0:Int),(0:Int),(0:Int),())
theorem Aat (b:List YB) (h:b.length<=4294967296):L0 (b,())=some (Agw b):=by
 unfold L0 Ah3
 simp only[Ah,Aa]
 rw[Cb _ h];rfl
theorem A9b {b:List YB} (h:b.length<=100):L6 (Agw b)=true:=by
 rw[Ng]
 simp only[Agw,List.length_nil]
 exact⟨by omega,by omega,by omega,by omega,by omega,by omega,.inl trivial,.inl trivial,h,.inl trivial,A87⟩
def Kg (s:Bc):List An:=s.2.2.2.2.2.2.1
def Bw (s:Bc):List Al:=s.2.2.2.2.2.1
def Mid (S X:Bc) (os:List Az) (ns:List Aq) (fin init:Bool):Prop:=
 (Ej X=true/\Kk os/\I7 ns)/\(os.length<=200000000/\ns.length<=200000000)/\Kg X=Kg S/\((Bw S).length<=(Bw X).length/\(Bw X).length<=(Bw S).length+1/\E0 (Pz S)<=E0 (Pz X))/\
 ((fin=false\/E0 (Pz S)=S.2.2.2.2.1)->(Bw X).length=(Bw S).length/\E0 (Pz X)=E0 (Pz S))/\(init=true->Pz X=Pz S/\os.length<=1)/\Bh X<=Bh S+100000
theorem Mid.none {S:Bc} {fin init:Bool} (hs:Ej S=true):Mid S S [] [] fin init:=
 ⟨⟨hs,fun _ h=>(by cases h),fun _ h=>(by cases h)⟩,⟨by simp,by simp⟩,rfl,⟨Nat.le_refl _,by omega,Int.le_refl _⟩,fun _=>⟨rfl,rfl⟩,fun _=>⟨rfl,by simp⟩,by omega⟩
theorem Bua (S:Bc) (n:YI) (a:A8) (f:Ap) (hs:Ej S=true) (hn:Bh S<=4000000) (ha:Cq a=true) (ht:inR n.1 0 1000000=true) (hf:Bu f=true) (hk:f.1=1):Tot (fun r=>Mid S r.1 r.2.1.1 r.2.2.1 false true) (Sx S n a f):=by
 obtain⟨a1,a2,a3,a4,a5,a6,a7⟩:=Ep.1 hs
 obtain⟨i1,i2⟩:=Auy hf hk
 have hcr:=(D3.1 a5).1
 have base:Tot (fun r:Bc×((List Az)×Unit)×((List Aq)×Unit)=>Mid S r.1 r.2.1.1 r.2.2.1 false true) (some (S,(([]:List Az),()),(([]:List Aq),()))):=Ag (Mid.none hs)
 have hj:S.2.1.length=32:=by simp only[beq_iff_eq]at a2;omega
 have hsd:S.2.2.1.length<=32:=by
  unfold G3 at a3
  simp only[Bool.and_eq_true,Bx]at a3
  omega
 have hdN:0<=S.2.2.2.1/\S.2.2.2.1<=10000:=by
  unfold G3 at a3
  simp only[Bool.and_eq_true,Bx]at a3
  omega
 unfold Sx Zp
 simp only[Af,Ah,Aa,Ak]
 refine Am (fun _=>base) (fun _=>?_)
 rw[Ai6 S a _ zq0,Ac]
 refine Am (fun _=>base) (fun _=>Am (fun _=>base) (fun hN=>?_))
 have hN:=of_decide_eq_false hN
 have hroll:Fv (S.2.2.1,S.2.2.2.1,())=((S.2.2.1,S.2.2.2.1+1,()),S6 S.2.2.1 S.2.2.2.1):=by
  unfold Fv;rw[if_pos ⟨a3,by dsimp only;omega⟩]
 have h12:=Bd2 a3
 rw[Az0 _ zq2,hroll,Ac]
 obtain⟨n,⟨⟩⟩:=n
 dsimp only at ht ⊢
 rw[Aje S.2.1 a f.2.1 f.2.2.1 _ n hj ha i1 i2 h12 ht,Ac,Cb _ zq2,Ac,Cb _ zq2,Ac,Ab5 a f.2.1 f.2.2.1 _ n ha i1 i2 h12 ht,Ac]
 have hb:=Nh (a:=a) (id:=f.2.1) (t:=n) i2 h12
 have hm:=A9a (a:=a) (id:=f.2.1) (t:=n) hj i2 h12
 rw[A84 _ _ zq0 zq0,Ac,Aat _ zq0,Ac]
 refine Ag ⟨⟨Ep.2 ⟨a1,a2,?_,a4,a5,a6,a7⟩,fun o ho=>?_,fun m hmm=>?_⟩,⟨by simp,by simp⟩,rfl,⟨Nat.le_refl _,by show S.2.2.2.2.2.1.length<=S.2.2.2.2.2.1.length+1;omega,Int.le_refl _⟩,fun _=>⟨rfl,rfl⟩,fun _=>⟨rfl,by simp⟩,?_⟩
 .unfold G3 at a3 ⊢
  simp only[Bool.and_eq_true,Bx]at a3 ⊢
  exact⟨a3.1,by omega⟩
 .rw[List.mem_singleton.1 ho]
  refine⟨?_,ha⟩
  unfold Bu
  simp[i2,h12,hm,ht,show inR 2 4 8=false by decide]
 .simp only[List.mem_cons,List.not_mem_nil,or_false]at hmm
  rcases hmm with rfl|rfl
  .exact A9b zq0
  .exact Big (.inr hj) zq0
 .simp only[Bh];omega
theorem Auz {S X:Bc} {i:Int} {x y:Al} {fin:Bool} {os:List Az} {ns:List Aq} (hX:Mid S X [] ns fin false) (h0:0<=i) (hx:(Bw X)[i.toNat]? =some x) (hn:A5 y<=A5 x+900) (ho:Dk y=true) (hs:y.2.2.1=x.2.2.1) (hi:y.1=x.1) (hd:Dd y=Dd x) (hos:Kk os) (hol:os.length<=200000000) {ms:List Aq} (hms:I7 ms) (hml:ms.length<=200000000) (hnd:Bh X<=Bh S+90000) {sd:List YB} {N:Int} (hdd:G3 (sd,N,())=true) (hsd:sd.length<=X.2.2.1.length):
  Mid S (X.1,X.2.1,sd,N,X.2.2.2.2.1,(Bw X).set i.toNat y,Kg X,()) os ms fin false:=by
 obtain⟨⟨m1,_,_⟩,_,m3,⟨m4,m5,m6⟩,m7,m8,_⟩:=hX
 obtain⟨a1,a2,a3,a4,a5,a6,a7⟩:=Ep.1 m1
 have hl12:=(Bw X).length
 have hlt:(Bw X).length<=4294967296:=by
  unfold Je at a4
  simp only[Bool.and_eq_true,Bool.not_eq_true',decide_eq_false_iff_not]at a4
  have:=a4.2.1
  show X.2.2.2.2.2.1.length<=_
  omega
 have ht:=Bdt (t:=(X.2.2.2.2.1,X.2.2.2.2.2.1,())) hlt a4 hx ho hs (.inr hd)
 have hlv:E0 (X.2.2.2.2.1,(Bw X).set i.toNat y,())=E0 (Pz X):=by
  rw[Kw _ zq1,Kw (Pz X) hlt]
  rw[show Fx (X.2.2.2.2.1,(Bw X).set i.toNat y,()).2.1=Fx (Pz X).2.1 from Ajf hx hd]
 have hsum:Br A5 ((Bw X).set i.toNat y)<=Br A5 (Bw X)+900:=A3m hx hn
 have hxm:x∈Bw X:=List.mem_of_getElem? hx
 refine⟨⟨Ep.2 ⟨a1,a2,hdd,ht,a5,a6,fun z hz=>?_⟩,hos,hms⟩,⟨hol,hml⟩,m3,⟨?_,?_,?_⟩,fun h=>?_,fun h=>(by cases h),?_⟩
 .rcases List.mem_or_eq_of_mem_set hz with hz|hz
  .exact a7 z hz
  .rw[hz,hi];exact a7 x hxm
 .show(Bw S).length<=((Bw X).set i.toNat y).length;simpa using m4
 .show((Bw X).set i.toNat y).length<=_;simpa using m5
 .show E0 (Pz S)<=E0 (X.2.2.2.2.1,(Bw X).set i.toNat y,());rw[hlv];exact m6
 .obtain⟨k1,k2⟩:=m7 h
  exact⟨by show((Bw X).set i.toNat y).length=_;simpa using k1,by show E0 (X.2.2.2.2.1,(Bw X).set i.toNat y,())=_;rw[hlv];exact k2⟩
 .have e1:Bh (X.1,X.2.1,sd,N,X.2.2.2.2.1,(Bw X).set i.toNat y,Kg X,())=X.1.length+Br Ec X.1+X.2.1.length+sd.length+(Bw X).length+Br A5 ((Bw X).set i.toNat y)+(Kg X).length:=by simp only[Bh,List.length_set]
  have e2:Bh X=X.1.length+Br Ec X.1+X.2.1.length+X.2.2.1.length+(Bw X).length+Br A5 (Bw X)+(Kg X).length:=rfl
  omega
theorem A0j (p:List YB) (n:YI) (a:A8) (f:Ap) (hp:L8 (p,())=true) (hn:inR n.1 0 1000000=true) (ha:Cq a=true) (hf:Bu f=true) (hk:f.1=3):Tot (fun s=>Dk s=true/\Dd s=false/\s.1=f.2.1/\s.2.1=f.2.2.1/\s.2.2.1=f.2.2.2.1/\s.2.2.2.2.2.2.1.length=32/\A5 s<=300) (Adb (p,()) n a f):=by
 obtain⟨c1,c2,c3,c4,c5,c6⟩:=Pd hf hk
 have hnf:=Kx hf
 obtain⟨r,r1,r2,r3⟩:=A80 (p,()) n a f zq0
 have hek:=Bih (p:=p) hp c2 c3
 refine⟨r,r1,?_⟩
 unfold Nt Uy at r2
 simp only[Af,Ah,Aa,Ak,List.length_nil,List.nil_append,Nat.zero_add]at r2
 rw[Agr,Ac,hp,Cy,Il,Jp]at r2
 simp only[Ac,Bool.not_true,Ao]at r2
 rw[hn,ha,hf,show(f.1 != (3:Int))=false by simp[hk]]at r2
 simp only[Bool.not_true,Ao]at r2
 rw[Ai zq0,Ai zq0,Ay,Ay,Aun,Ac,show Ja ((1:Int),()) (f.2.2.2.1,()) (Nw p f.2.2.1 f.2.2.2.1 0,())=_ from(Blk 1 f.2.2.2.1 _ (.inr rfl) c3 hek).2,Ac,show Sp a=some (a.1,a.2.1,[],())from rfl,Ac]at r2
 simp only[Option.some.injEq]at r2
 subst r2
 exact⟨A0d (Bx.1 c1) c2 c3 (Bll (.inr rfl) c3 hek) rfl (Nb _) (K9.2 ⟨ha,by simp,(fun x hx=>by cases hx),List.Pairwise.nil⟩) (Bx.1 c4) (Bx.1 hn),rfl,rfl,rfl,rfl,hek,by omega⟩
theorem Bub {id:Int} {cn sn k:List YB} {a:A8} {n:Int} (h1:inR id 1 9=true) (h2:cn.length=12) (h3:sn.length=12) (h4:k.length=32) (ha:Cq a=true) (hn:inR n 0 1000000=true):L6 ((4:Int),id,(0:Int),cn,sn,(0:Int),(0:Int),([]:List YB),k,a.1,a.2.1,n,())=true:=by
 have h1:=Bx.1 h1
 have hn:=Bx.1 hn
 rw[Ng]
 simp only[List.length_nil]
 exact⟨by omega,by omega,by omega,by omega,by omega,hn,.inr h2,.inr h3,by omega,.inr h4,ha⟩
theorem Bse {S:Bc} (hs:Ej S=true) {id:Int} (h1:inR id 1 9=true) (h2:id<=(S.1.length:Int)): ∃e,idx S.1 (IntKind.i64.wrap (id-1))=some e/\L8 e=true:=by
 obtain⟨a1,a2,a3,a4,a5,a6,a7⟩:=Ep.1 hs
 have h1:=Bx.1 h1
 rw[w64 zq0]
 have hlt:(id-1).toNat<S.1.length:=by omega
 have hx:=List.getElem?_eq_getElem hlt
 refine⟨S.1[(id-1).toNat],by unfold idx;rw[if_pos zq0];exact hx,?_⟩
 have:=H0.1 a6 _ _ hx
 simpa using this
theorem Agg {l:List Al} {s:List YB} (h:0<=Es l s): ∃x,l[(Es l s).toNat]? =some x/\idx l (Es l s)=some x:=by
 cases hf:Im (fun _ (x:Al)=>Cv x.2.2.1 s) l 0 with
 |none=>unfold Es Mb at h;rw[hf]at h;simp at h
 |some k=>
  have e:Es l s=(k:Int):=by unfold Es Mb;rw[hf];rfl
  obtain⟨j,y,hk,h2,h3,_⟩:=S4 hf
  have hk:k=j:=by omega
  subst hk
  refine⟨y,by rw[e];simpa using h2,?_⟩
  unfold idx
  rw[if_pos h,e]
  simpa using h2
theorem Bmt {S X:Bc} {i:Int} {x:Al} {ns0:List Aq} {fin:Bool} (hX:Mid S X [] ns0 fin false) (hn:Bh X<=5000000) (h0:0<=i) (hx:(Bw X)[i.toNat]? =some x) (hd:Dd x=false) (hnd:Bh X<=Bh S+90000) (hnl:ns0.length<=100):
  Tot (fun r=>Mid S r.1 r.2.1.1 r.2.2.1 fin false) (ob (K7 x) fun r19=>ob (Ho (X.2.2.2.2.1,Bw X,()) (i,()) r19.1) fun r20=>chk (decide (ns0.length+r19.2.2.1.length<=4294967296)) (some ((X.1,X.2.1,X.2.2.1,X.2.2.2.1,r20.1.1,r20.1.2.1,Kg X,()),r19.2.1,((ns0++r19.2.2.1),())))):=by
 obtain⟨⟨m1,_,m2⟩,_⟩:=id hX
 obtain⟨a1,a2,a3,a4,a5,a6,a7⟩:=Ep.1 m1
 have hxm:x∈Bw X:=List.mem_of_getElem? hx
 have hsm:A5 x<=Br A5 (Bw X):=Tb (f:=A5) hxm
 have e2:Bh X=X.1.length+Br Ec X.1+X.2.1.length+X.2.2.1.length+(Bw X).length+Br A5 (Bw X)+(Kg X).length:=rfl
 have ho:Dk x=true:=((Xe (by show(Bw X).length<=_;omega)).1 a4).2.2.2.1 x hxm
 obtain⟨r,os,ns,r1,_,r3,r4,r5,r6⟩:=A85 x zq0
 obtain⟨r7,r8,r9⟩:=r6 ho hd
 rw[r1,Ac]
 have hnt:Cf (X.2.2.2.2.1,Bw X,())<=5000000:=by simp only[Cf];omega
 obtain⟨p1,p2,p3⟩:=Bf3 (t:=(X.2.2.2.2.1,Bw X,())) (y:=r) zq0 a4 h0 hx r7 r8 (by rw[r9,hd])
 rw[p1,Ac]
 refine Dy (Ai zq2) (Ag ?_)
 rcases Bx9 x zq0 ho hd r1 with⟨rfl,rfl,rfl⟩|⟨w1,w2,w3,w4,w5,w6,w7⟩
 .dsimp only
  rw[List.append_nil]
  exact Auz hX h0 hx zq0 ho rfl rfl rfl (fun _ h=>by cases h) zq3 m2 zq0 hnd a3 (Nat.le_refl _)
 .exact Auz hX h0 hx zq0 w1 w5 w4 (by rw[w6,hd]) w2 zq0 (La m2 w3) (by rw[List.length_append];omega) hnd a3 (Nat.le_refl _)
theorem Bv4 (S:Bc) (n:YI) (a:A8) (f:Ap) (hs:Ej S=true) (hn:Bh S<=4000000):Tot (fun r=>Mid S r.1 r.2.1.1 r.2.2.1 true false) (Oq S n a f):=by
 obtain⟨a1,a2,a3,a4,a5,a6,a7⟩:=Ep.1 hs
 have e2:Bh S=S.1.length+Br Ec S.1+S.2.1.length+S.2.2.1.length+(Bw S).length+Br A5 (Bw S)+(Kg S).length:=rfl
 have base:Tot (fun r:Bc×((List Az)×Unit)×((List Aq)×Unit)=>Mid S r.1 r.2.1.1 r.2.2.1 true false) (some (S,(([]:List Az),()),(([]:List Aq),()))):=Ag (Mid.none hs)
 have hj:S.2.1.length=32:=by simp only[beq_iff_eq]at a2;omega
 have hnt:Cf (S.2.2.2.2.1,S.2.2.2.2.2.1,())<=4000000:=by
  show(Bw S).length+Br A5 (Bw S)<=_
  omega
 unfold Oq Tx
 simp only[Af,Ah,Aa,Ak]
 obtain⟨k,k1,k3⟩:=Bt8 S.2.1 n a f
 rw[k1,Ac]
 refine Am (fun _=>base) (fun hk0=>Am (fun _=>base) (fun hid=>?_))
 have hk0:k=0:=by simpa using hk0
 have hid:=of_decide_eq_false hid
 obtain⟨_,ht,ha,hk,hf⟩:=k3 hk0
 obtain⟨c1,c2,c3,c4,c5,c6⟩:=Pd hf hk
 obtain⟨⟨e,⟨⟩⟩,he,hpsk⟩:=Bse hs c1 zq0
 obtain⟨pk,pk1⟩:=Bpi e f
 rw[he,Ac,pk1,Ac]
 refine Am (fun _=>base) (fun _=>?_)
 rw[Pt _ _ (by show(Bw S).length<=_;omega),Ac]
 refine Am (fun hneg=>?_) (fun hneg=>?_)
 .rw[Ac]
  refine Ae (A0j e n a f hpsk ht ha hf hk) (fun r6 ⟨s1,s2,s3,s4,s5,s6,s7⟩=>?_)
  refine Ae (Bo5 (S.2.2.2.2.1,S.2.2.2.2.2.1,()) r6 zq0) (fun r7 h7=>?_)
  refine Am (fun _=>base) (fun h0=>?_)
  have h0:r7.2.1=0:=by simpa using h0
  obtain⟨q1,q2,q3,q4⟩:=Br7 (by show(Bw S).length<=_;omega) h7 h0
  obtain⟨_,_,_,_,_,_,q5⟩:=h7.2 h0
  obtain⟨⟨rc,rl,⟨⟩⟩,rk⟩:=r7
  dsimp only at q1 q2 q3 q4 q5 ⊢
  simp only[Prod.mk.injEq,and_true]at q5
  obtain⟨rfl,rfl⟩:=q5
  have hfk:=Az8 hpsk
  have hpb:(H3 f.2.1 f.2.2.1 f.2.2.2.1 f.2.2.2.2.1 f.2.2.2.2.2.1).length<=46:=by rw[Awo];cases S8 f.2.1 f.2.2.1 f.2.2.2.1 f.2.2.2.2.1 f.2.2.2.2.2.1<;>simp
  have hmb:=Nh (a:=a) (id:=f.2.1) (t:=f.2.2.2.2.1) c2 c3
  rw[Ab5 a f.2.1 f.2.2.1 f.2.2.2.1 f.2.2.2.2.1 ha c1 c2 c3 c4,Ac,Apr _ _ _ zq0 zq0 zq0,Ac,Anx,Ac,Any,Ac,Apr _ _ _ zq0 zq0 zq0,Ac,Cb _ zq2,Ac,Cb _ zq2,Ac,Cb _ zq2,Ac]
  refine Dy (Ai zq3) ?_
  rw[Pt _ _ (by show(Bw S++[r6]).length<=_;simp;omega),Ac]
  have hfs:Es (S.2.2.2.2.2.1++[r6]) f.2.2.2.1=((Bw S).length:Int):=by rw[<-s5];exact q3
  rw[hfs]
  have hgx:(S.2.2.2.2.2.1++[r6])[(((Bw S).length:Nat):Int).toNat]? =some r6:=by simp[Bw]
  rw[show idx (S.2.2.2.2.2.1++[r6]) (((Bw S).length:Nat):Int)=some r6 by unfold idx;rw[if_pos zq0];exact hgx,Ac]
  have hmid: ∀ns,I7 ns->ns.length<=100->Mid S (S.1,S.2.1,S.2.2.1,S.2.2.2.1,S.2.2.2.2.1,S.2.2.2.2.2.1++[r6],S.2.2.2.2.2.2.1,()) [] ns true false:=fun ns hns hnl=>by
   refine⟨⟨Ep.2 ⟨a1,a2,a3,q1,a5,a6,fun z hz=>?_⟩,fun _ h=>(by cases h),hns⟩,⟨by simp,by omega⟩,rfl,⟨?_,?_,?_⟩,fun h=>?_,fun h=>(by cases h),?_⟩
   .rcases List.mem_append.1 hz with hz|hz
    .exact a7 z hz
    .rw[List.mem_singleton.1 hz,s3];show f.2.1<=(S.1.length:Int);omega
   .show(Bw S).length<=(Bw S++[r6]).length;simp
   .show(Bw S++[r6]).length<=_;simp
   .show E0 (Pz S)<=E0 (S.2.2.2.2.1,S.2.2.2.2.2.1++[r6],());rw[q2];show E0 (Pz S)<=E0 (Pz S)+1;omega
   .rcases h with h|h
    .cases h
    .have q4:E0 (Pz S)<S.2.2.2.2.1:=q4
     omega
   .have:Br A5 (Bw S++[r6])=Br A5 (Bw S)+A5 r6:=by
     rw[Pu];simp[Br]
    show S.1.length+Br Ec S.1+S.2.1.length+S.2.2.1.length+(Bw S++[r6]).length+Br A5 (Bw S++[r6])+(Kg S).length<=Bh S+100000
    rw[List.length_append,this,List.length_singleton];omega
  have hnotes:I7 (([]:List Aq)++[Hs S.2.1 f.2.2.2.1 (Aas a f.2.1 f.2.2.1 f.2.2.2.1 f.2.2.2.2.1),Hs (Jt e) f.2.2.2.1 (H3 f.2.1 f.2.2.1 f.2.2.2.1 f.2.2.2.2.1 f.2.2.2.2.2.1),((4:Int),f.2.1,(0:Int),f.2.2.1,f.2.2.2.1,(0:Int),(0:Int),([]:List YB),r6.2.2.2.2.2.2.1,a.1,a.2.1,n.1,())]):=fun m hm=>by
   simp only[List.nil_append,List.mem_cons,List.not_mem_nil,or_false]at hm
   rcases hm with rfl|rfl|rfl
   .exact A5q (.inr hj) (.inr c3) zq0
   .exact A5q (.inr hfk) (.inr c3) zq0
   .exact Bub c1 c2 c3 s6 ha ht
  have hm3:=hmid _ hnotes zq3
  refine Am (fun _=>Ag hm3) (fun _=>Am (fun _=>Ag hm3) (fun _=>?_))
  rw[Gk,Ac]
  refine Am (fun _=>Ag hm3) (fun _=>?_)
  exact Bmt hm3 (by
   show S.1.length+Br Ec S.1+S.2.1.length+S.2.2.1.length+(Bw S++[r6]).length+Br A5 (Bw S++[r6])+(Kg S).length<=5000000
   rw[Pu,List.length_append];simp[Br];omega) zq0 hgx s2 (by
   show S.1.length+Br Ec S.1+S.2.1.length+S.2.2.1.length+(Bw S++[r6]).length+Br A5 (Bw S++[r6])+(Kg S).length<=Bh S+90000
   rw[Pu,List.length_append];simp[Br];omega) zq3
 .have hneg:=of_decide_eq_false hneg
  dsimp only at hneg
  rw[Ac]
  obtain⟨x,hx,hix⟩:=Agg (l:=S.2.2.2.2.2.1) (s:=f.2.2.2.1) zq0
  rw[hix,Ac]
  refine Am (fun _=>base) (fun hd=>Am (fun _=>base) (fun _=>?_))
  rw[Gk,Ac]
  refine Am (fun _=>base) (fun _=>?_)
  exact Bmt (ns0:=[]) (Mid.none hs) zq0 (Int.not_lt.1 hneg) hx hd zq0 zq3
theorem Bxc {sn b:List YB} {a:A8} {n:Int} (h1:sn.length=12) (h2:b.length<=100) (ha:Cq a=true) (hn:inR n 0 1000000=true):L6 ((7:Int),(0:Int),(0:Int),([]:List YB),sn,(0:Int),(0:Int),b,([]:List YB),a.1,a.2.1,n,())=true:=by
 have hn:=Bx.1 hn
 rw[Ng]
 simp only[List.length_nil]
 exact⟨by omega,by omega,by omega,by omega,by omega,hn,.inl trivial,.inr h1,h2,.inl trivial,ha⟩
theorem Biu (S:Bc) (n:YI) (a:A8) (f:Ap) (d:YBs) (sd:List YB) (N:Int) {i:Int} {x:Al} (hs:Ej S=true) (hn:Bh S<=4000000) (ha:Cq a=true) (ht:inR n.1 0 1000000=true) (hf:Bu f=true) (hk:inR f.1 4 8=true) (w1:wfB f.2.2.2.1) (w2:wfB (Cj x).2.1) (hdl:d.1.length<=12) (hdd:G3 (sd,N,())=true) (hsd:sd.length<=S.2.2.1.length) (h0:0<=i) (hx:(Bw S)[i.toNat]? =some x) (hd:Dd x=false):
  Tot (fun r:Bc×((List Az)×Unit)×((List Aq)×Unit)=>Mid S r.1 r.2.1.1 r.2.2.1 false false) (ob (Jn x n a f d) fun r6=>ob (Ho (S.2.2.2.2.1,S.2.2.2.2.2.1,()) (i,()) r6.1) fun r7=>br r6.2.2.2.1 (ob (Bq (f.2.2.2.1,())) fun r8=>ob (Bq d) fun r9=>ob (L0 d) fun r10=>chk (decide ([r10].length+r6.2.2.1.1.length<=4294967296)) (chk (decide (([r10]++r6.2.2.1.1).length+[((7:Int),(0:Int),(0:Int),([]:List YB),r8.1,(0:Int),(0:Int),r9.1,([]:List YB),a.1,a.2.1,n.1,())].length<=4294967296)) (some ((S.1,S.2.1,sd,N,r7.1.1,r7.1.2.1,S.2.2.2.2.2.2.1,()),r6.2.1,((([r10]++r6.2.2.1.1)++[((7:Int),(0:Int),(0:Int),([]:List YB),r8.1,(0:Int),(0:Int),r9.1,([]:List YB),a.1,a.2.1,n.1,())]),()))))) (some ((S.1,S.2.1,S.2.2.1,S.2.2.2.1,r7.1.1,r7.1.2.1,S.2.2.2.2.2.2.1,()),r6.2.1,r6.2.2.1))):=by
 obtain⟨a1,a2,a3,a4,a5,a6,a7⟩:=Ep.1 hs
 have hfn:=Kx hf
 have hbody:=Ui hf hk
 have hxm:x∈Bw S:=List.mem_of_getElem? hx
 have hsm:A5 x<=Br A5 (Bw S):=Tb (f:=A5) hxm
 have e2:Bh S=S.1.length+Br Ec S.1+S.2.1.length+S.2.2.1.length+(Bw S).length+Br A5 (Bw S)+(Kg S).length:=rfl
 have ho:Dk x=true:=((Xe (by show(Bw S).length<=_;omega)).1 a4).2.2.2.1 x hxm
 obtain⟨r,os,ns,k,r1,_,r3,r4,r5⟩:=A3g x n a f d zq0 zq0 zq0 w1 w2
 have hnt:Cf (S.2.2.2.2.1,S.2.2.2.2.2.1,())<=4000000:=by
  show(Bw S).length+Br A5 (Bw S)<=_
  omega
 have hW:=Bsc x n a f d zq0 zq0 w1 w2 ho hd hdl r1
 have hr:Dk r=true/\Kk os/\I7 ns/\r.1=x.1/\r.2.2.1=x.2.2.1/\Dd r=false:=by
  rcases hW with⟨rfl,rfl,rfl,rfl⟩|⟨g1,g2,g3,g4,g5,g6,_⟩
  .exact⟨ho,fun _ h=>(by cases h),fun _ h=>(by cases h),rfl,rfl,hd⟩
  .exact⟨g1,g2,g3,g4,g5,g6⟩
 obtain⟨g1,g2,g3,g4,g5,g6⟩:=hr
 rw[r1,Ac]
 obtain⟨p1,p2,p3⟩:=Bf3 (t:=(S.2.2.2.2.1,S.2.2.2.2.2.1,())) (y:=r) zq0 a4 h0 hx g1 g5 (by rw[g6,hd])
 rw[p1,Ac]
 have hosl:os.length<=100000000:=by omega
 have hnsl:ns.length<=100000000:=by omega
 refine Am (fun _=>?_) (fun _=>?_)
 .obtain⟨d,⟨⟩⟩:=d
  dsimp only at hdl
  rw[Cb _ zq2,Ac,Cb _ zq2,Ac,Aat _ zq0,Ac]
  refine Dy (Ai zq1) (Dy (Ai zq1) (Ag ?_))
  have hno:I7 (([Agw d]++ns)++[((7:Int),(0:Int),(0:Int),([]:List YB),f.2.2.2.1,(0:Int),(0:Int),d,([]:List YB),a.1,a.2.1,n.1,())]):=La (La (Fj (A9b zq0)) g3) (Fj (Bxc hbody.1 zq0 ha ht))
  exact Auz (Mid.none hs) h0 hx r3 g1 g5 g4 (by rw[g6,hd]) g2 zq0 hno zq1 zq0 hdd hsd
 .exact Ag (Auz (Mid.none hs) h0 hx r3 g1 g5 g4 (by rw[g6,hd]) g2 zq0 g3 zq0 zq0 a3 (Nat.le_refl _))
theorem Buc (S:Bc) (n:YI) (a:A8) (f:Ap) (hs:Ej S=true) (hn:Bh S<=4000000) (ha:Cq a=true) (ht:inR n.1 0 1000000=true) (hf:Bu f=true) (hk:inR f.1 4 8=true) (w1:wfB f.2.2.2.1) (w2: ∀x∈Bw S,wfB (Cj x).2.1):Tot (fun r=>Mid S r.1 r.2.1.1 r.2.2.1 false false) (Ki S n a f):=by
 obtain⟨a1,a2,a3,a4,a5,a6,a7⟩:=Ep.1 hs
 have e2:Bh S=S.1.length+Br Ec S.1+S.2.1.length+S.2.2.1.length+(Bw S).length+Br A5 (Bw S)+(Kg S).length:=rfl
 have base:Tot (fun r:Bc×((List Az)×Unit)×((List Aq)×Unit)=>Mid S r.1 r.2.1.1 r.2.2.1 false false) (some (S,(([]:List Az),()),(([]:List Aq),()))):=Ag (Mid.none hs)
 have hro:G3 ((Fv (S.2.2.1,S.2.2.2.1,())).1.1,(Fv (S.2.2.1,S.2.2.2.1,())).1.2.1,())=true:=by
  have a3':=a3
  unfold G3 at a3'
  simp only[Bool.and_eq_true,Bx]at a3'
  unfold Fv
  split
  .rename_i h
   unfold G3
   simp only[Bool.and_eq_true,Bx]
   have:=h.2
   dsimp only at this
   exact⟨a3'.1,by omega⟩
  .exact a3
 have hr1:=Bhx (S.2.2.1,S.2.2.2.1,())
 have hr2:=Bhy (S.2.2.1,S.2.2.2.1,())
 unfold Ki Nz
 simp only[Af,Ah,Aa,Ak]
 rw[Pt _ _ (by show(Bw S).length<=_;omega),Ac]
 refine Am (fun _=>base) (fun hneg=>?_)
 have hneg:=of_decide_eq_false hneg
 dsimp only at hneg
 obtain⟨x,hx,hix⟩:=Agg (l:=S.2.2.2.2.2.1) (s:=f.2.2.2.1) (Int.not_lt.1 hneg)
 rw[hix,Ac]
 refine Am (fun _=>base) (fun hd=>?_)
 rw[Az0 _ zq2,Ac,Ai6 S a _ zq0,Ac]
 have hxm:x∈Bw S:=List.mem_of_getElem? hx
 refine Am (fun _=>?_) (fun _=>?_)
 .rw[Ac]
  exact Biu S n a f (([]:List YB),()) _ _ hs hn ha ht hf hk w1 (w2 x hxm) zq3 hro (by rw[hr1];exact Nat.le_refl _) (Int.not_lt.1 hneg) hx hd
 .rw[Ac]
  exact Biu S n a f ((Fv (S.2.2.1,S.2.2.2.1,())).2,()) _ _ hs hn ha ht hf hk w1 (w2 x hxm) hr2 hro (by rw[hr1];exact Nat.le_refl _) (Int.not_lt.1 hneg) hx hd
def frO (x:Az):Ap:=(x.2.2.1,x.2.2.2.1,x.2.2.2.2.1,x.2.2.2.2.2.1,x.2.2.2.2.2.2.1,x.2.2.2.2.2.2.2.1,x.2.2.2.2.2.2.2.2.1,x.2.2.2.2.2.2.2.2.2.1,x.2.2.2.2.2.2.2.2.2.2.1,x.2.2.2.2.2.2.2.2.2.2.2.1,x.2.2.2.2.2.2.2.2.2.2.2.2.1,())
def szO (x:Az):Int:=((D8 (frO x)).length:Int)
def Gn (t:Ck) (p:List Az×List An) (x:Az):List Az×List An:=
 bif Ank t (x.1,x.2.1,())then(p.1++[x],p.2)else match Vm p.2 (x.1,x.2.1,()) (szO x)with|some r=>(p.1++[x],r)|none=>p
def Gi (t:Ck) (l:List Az) (cr:List An):List Az×List An:=l.foldl (Gn t) ([],cr)
theorem A9c {t:Ck} {l:List Az} {x:Az} {cr:List An}:Gi t (l++[x]) cr=Gn t (Gi t l cr) x:=by
 unfold Gi;rw[List.foldl_append];rfl
def Ow (t:Ck):List Az->Int
 |[]=>0
 |x::r=>(bif Ank t (x.1,x.2.1,())then 0 else szO x)+Ow t r
theorem Au0 {t:Ck}: ∀ {a b:List Az},Ow t (a++b)=Ow t a+Ow t b
 |[],b=>by simp[Ow]
 |x::a,b=>by simp only[List.cons_append,Ow,Au0];omega
theorem Biv {t:Ck}: ∀(l:List Az) (p:List Az×List An),Cr p.2=true->
  Cr (l.foldl (Gn t) p).2=true/\Jf (l.foldl (Gn t) p).2-Ow t (l.foldl (Gn t) p).1=Jf p.2-Ow t p.1/\(l.foldl (Gn t) p).2.length=p.2.length/\(l.foldl (Gn t) p).1.length<=p.1.length+l.length/\ ∀x∈(l.foldl (Gn t) p).1,x∈p.1\/x∈l
 |[],p,h=>⟨h,rfl,rfl,by simp,fun x hx=>.inl hx⟩
 |y::l,p,h=>by
  rw[List.foldl_cons]
  have hst:Cr (Gn t p y).2=true/\Jf (Gn t p y).2-Ow t (Gn t p y).1=Jf p.2-Ow t p.1/\(Gn t p y).2.length=p.2.length/\(Gn t p y).1.length<=p.1.length+1/\ ∀x∈(Gn t p y).1,x∈p.1\/x=y:=by
   unfold Gn
   cases ha:Ank t (y.1,y.2.1,())with
   |true=>
    simp only[cond_true]
    refine⟨h,?_,by first|trivial|rfl,by simp,fun x hx=>by simpa using hx⟩
    rw[Au0];simp only[Ow,ha,cond_true];omega
   |false=>
    simp only[cond_false]
    cases hsp:Vm p.2 (y.1,y.2.1,()) (szO y)with
    |none=>exact⟨h,by first|trivial|rfl,by first|trivial|rfl,by simp,fun x hx=>.inl hx⟩
    |some r=>
     obtain⟨_,g2,g3,g4⟩:=Bsb hsp
     refine⟨g2,?_,g4,by simp,fun x hx=>by simpa using hx⟩
     dsimp only
     rw[Au0,g3];simp only[Ow,ha,cond_false];omega
  obtain⟨s1,s2,s3,s4,s5⟩:=hst
  obtain⟨i1,i2,i3,i4,i5⟩:=Biv l (Gn t p y) s1
  refine⟨i1,by omega,by omega,by simp only[List.length_cons];omega,fun x hx=>?_⟩
  rcases i5 x hx with h|h
  .rcases s5 x h with h|h
   .exact .inl h
   .exact .inr (by rw[h];simp)
  .exact .inr (by simp[h])
theorem A5u {t:Ck} {l:List Az} {cr:List An} (h:Cr cr=true):Cr (Gi t l cr).2=true/\Jf (Gi t l cr).2-Ow t (Gi t l cr).1=Jf cr/\(Gi t l cr).2.length=cr.length/\(Gi t l cr).1.length<=l.length/\ ∀x∈(Gi t l cr).1,x∈l:=by
 obtain⟨h1,h2,h3,h4,h5⟩:=Biv (t:=t) l ([],cr) h
 refine⟨h1,h2.trans (Int.sub_zero _),h3,Nat.le_trans h4 zq3,fun x hx=>?_⟩
 rcases h5 x hx with h|h
 .cases h
 .exact h
theorem Bv5 (x:Az) (h:Av (frO x)<=536870912):Af8 (x.2.2.1,x.2.2.2.1,x.2.2.2.2.1,x.2.2.2.2.2.1,x.2.2.2.2.2.2.1,x.2.2.2.2.2.2.2.1,x.2.2.2.2.2.2.2.2.1,x.2.2.2.2.2.2.2.2.2.1,x.2.2.2.2.2.2.2.2.2.2.1,x.2.2.2.2.2.2.2.2.2.2.2.1,x.2.2.2.2.2.2.2.2.2.2.2.2.1,())=some (szO x,()):=Bt5 (frO x) h
theorem Bxd {i:Nat} (h:i<=1000000000):Nat.ble (Int.toNat (i:Int)+1) (Int.toNat (IntKind.i64.wrap ((i:Int)+1)))=true:=by
 rw[w64 zq0]
 exact Nat.ble_eq_true_of_le zq0
theorem Bud (ns:List Aq) (frames:List Az) (cr:List An) (e1:List YBs) (e2 e3:List YB) (e4 e5:Int) (e6:List Al) (e7:List An) (x1:List YBs) (x2 x3:List YB) (x4 cap:Int) (l:List Al) (hcr:Cr cr=true) (hl:frames.length<=200000000) (hfr:Kk frames) (hT:l.length<=4294967296):
  A0 Dx (ns,([]:List Az),frames,(frames.length:Int),(0:Int),e1,e2,e3,e4,e5,e6,e7,x1,x2,x3,x4,cap,l,cr,())=some (ns,(Gi (cap,l,()) frames cr).1,e1,e2,e3,e4,e5,e6,e7,x1,x2,x3,x4,cap,l,(Gi (cap,l,()) frames cr).2,()):=by
 have e:=Cs (B:=Dx) frames.length (fun i=>(ns,(Gi (cap,l,()) (frames.take i) cr).1,frames,(frames.length:Int),(i:Int),e1,e2,e3,e4,e5,e6,e7,x1,x2,x3,x4,cap,l,(Gi (cap,l,()) (frames.take i) cr).2,())) (ns,(Gi (cap,l,()) frames cr).1,e1,e2,e3,e4,e5,e6,e7,x1,x2,x3,x4,cap,l,(Gi (cap,l,()) frames cr).2,())
  (fun i hi=>by
   have hx:=List.getElem?_eq_getElem hi
   have hxm:=List.getElem_mem hi
   have htk:frames.take (i+1)=frames.take i++[frames[i]]:=by rw[List.take_add_one,hx];rfl
   rw[htk,A9c]
   obtain⟨_,_,f3,f4,_⟩:=A5u (t:=(cap,l,())) (l:=frames.take i) hcr
   have hc8:=(D3.1 hcr).1
   have hfo:=(hfr _ hxm).1
   have hfn:=Kx hfo
   have f5:(frames.take i).length<=i:=by simp;omega
   generalize Gi (cap,l,()) (frames.take i) cr=p at f3 f4
   generalize frames[i]=x at hx hxm hfo hfn
   obtain⟨ou,cc⟩:=p
   dsimp only at f3 f4
   unfold Dx Gn
   simp only[Af,Ah,Aa,Ak]
   rw[Ai zq0,A6,Nat.beq_refl,Ay,B8 hx,Ac,Bq0 _ _ hT,Ac,Bxd zq0,w64 (n:=(i:Int)+1) zq0]
   dsimp only
   cases Ank (cap,l,()) (x.1,x.2.1,())with
   |true=>
    simp only[Bool.not_true,Ao,Ay,cond_true]
    rw[Ai zq1,Ay]
    rfl
   |false=>
    simp only[Bool.not_false,A6,Ay,cond_false]
    rw[Bv5 x (Nat.le_trans hfn zq7),Ac,Bt4 cc (x.1,x.2.1,()) _ zq0,Ac]
    dsimp only
    cases Vm cc (x.1,x.2.1,()) (szO x)with
    |none=>rfl
    |some r=>
     dsimp only
     rw[Ai zq1]
     rfl)
  (by
   rw[List.take_length]
   unfold Dx
   simp only[Af,Ah,Aa,Ak]
   rw[Bt zq0,Ao])
 have e0:Gi (cap,l,()) (frames.take 0) cr=([],cr):=by rw[List.take_zero];rfl
 rw[e0]at e
 exact e
end
end Go.Proofs.YthccfdmiejmbaaaGreat

/-
  That the program and the reference answer alike, in plain terms, and that the laws answer true.
-/
import Derived.Test.YtfljmgnghlpapaaGreatL79
namespace Go.Proofs.YtfljmgnghlpapaaGreat
open Go.RowKit
set_option linter.unusedVariables false
set_option linter.unusedSimpArgs false
set_option maxRecDepth 100000
set_option maxHeartbeats 4000000
noncomputable section
theorem A24 (l:List Ak) (a:Bi) (h:l.length≤4294967296):Tot (fun _=>True) (Ac0 (l,()) a):=by
 have hp:=Av7 (q:=fun x:Ak=>eqA x.1 x.2.1 a.1 a.2.1) (l:=l)
 unfold Ac0 Ab4
 simp only[Ac,Ae,Ab]
 rw[Av8 l a h,Ai,S8 l h,Ai]
 refine Ar (fun _=>Ah trivial) (fun _=>Ar (fun _=>Ah trivial) (fun hg=>?_))
 simp only[decide_eq_false_iff_not]at hg
 refine Aj (D8 (P:=fun _=>True) zq0 hp.2 (fun _ _=>trivial)) (fun e3 _=>?_)
 exact Aj (D8 (P:=fun _=>True) zq0 hp.2 (fun _ _=>trivial)) (fun e4 _=>Ah trivial)
theorem A83 (l:List Ak) (a:Bi) (n:YI) (h:l.length≤1000):Tot (fun r=>r.1.1.length≤l.length) (Aah (l,()) a n):=by
 have hp:=Av7 (q:=fun x:Ak=>eqA x.1 x.2.1 a.1 a.2.1) (l:=l)
 unfold Aah Ak3
 simp only[Ac,Ae,Ab,Al,List.length_nil,List.nil_append,Nat.zero_add]
 refine Dh (An zq0) ?_
 rw[Av8 l a zq0,Ai,S8 l zq0,Ai]
 have no:Tot (fun r:((List Ak)×Unit)×(Bool×Unit)=>r.1.1.length≤l.length) (some ((l,()),(false,()))):=Ah (Nat.le_refl _)
 refine Ar (fun _=>no) (fun hg=>Ar (fun _=>no) (fun _=>?_))
 simp only[decide_eq_false_iff_not]at hg
 refine Aj (A24 l a zq0) (fun r3 _=>?_)
 rw[Df,Ai]
 refine Ar (fun _=>no) (fun _=>?_)
 refine Aj (D8 (P:=fun _=>True) zq0 hp.2 (fun _ _=>trivial)) (fun e3 _=>?_)
 exact Aj (D8 (P:=fun _=>True) zq0 hp.2 (fun _ _=>trivial)) (fun e4 _=>Ah zq3)
theorem Bbp (l:List Ak) (a:Bi) (n:YI) (h:l.length≤1000):Tot (fun r=>r.1.length≤l.length+1) (Aq5 (l,()) a n):=by
 have hp:=Av7 (q:=fun x:Ak=>eqA x.1 x.2.1 a.1 a.2.1) (l:=l)
 unfold Aq5 Aqj
 simp only[Ac,Ae,Ab,Al,List.length_nil,List.nil_append,Nat.zero_add]
 refine Dh (An zq0) ?_
 rw[S8 l zq0,Ai,Ox,Ai,Df,Ai,Av8 l a zq0,Ai]
 have no:Tot (fun r:(List Ak)×Unit=>r.1.length≤l.length+1) (some (l,())):=Ah zq3
 refine Ar (fun _=>no) (fun _=>Ar (fun _=>no) (fun _=>Ar (fun _=>no) (fun _=>?_)))
 refine Ar (fun _=>Ar (fun _=>no) (fun _=>Dh (An zq1) (Ah zq3))) (fun hg=>?_)
 simp only[decide_eq_false_iff_not]at hg
 refine Aj (D8 (P:=fun _=>True) zq0 hp.2 (fun _ _=>trivial)) (fun e3 _=>?_)
 refine Aj (D8 (P:=fun _=>True) zq0 hp.2 (fun _ _=>trivial)) (fun e4 _=>?_)
 refine Aj (D8 (P:=fun _=>True) zq0 (by rw[List.length_set];exact hp.2) (fun _ _=>trivial)) (fun e8 _=>?_)
 refine Ar (fun _=>?_) (fun _=>Ah zq3)
 exact Aj (D8 (P:=fun _=>True) zq0 (by rw[List.length_set];exact hp.2) (fun _ _=>trivial)) (fun e9 _=>Ah zq3)
theorem Apy {b:List YB} {a0:Aq} (n:YI) (hc:Bn b a0) (hn:0≤n.1∧n.1≤20):Tot (fun r=>r.1.1.length≤21∧Bn b r.2) (S3 a0 n):=by
 unfold S3 Ab6
 simp only[Ac,Ae,Ab,Al]
 rw[w64 zq0]
 refine Aj (A9 _ hc zq2) (fun r1 ⟨h1,h1c⟩=>?_)
 have h1b:0≤r1.1.1∧r1.1.1≤20:=⟨h1.1,by rcases h1.2 with q|q<;>(try dsimp only at q)<;>omega⟩
 refine Aj (Q:=fun o:(List Ak)×(List YB)×Int×Int×Unit=>o.1.length≤21∧Bn b (o.2.1,o.2.2.1,o.2.2.2.1,())) ?_ (fun o ho=>Ah ho)
 refine Amz (fun i d=>d.2.1=r1.1.1-(i:Int)∧d.1.length≤i∧d.2.2.1=a0.1∧Bn b (d.2.2.1,d.2.2.2.1,d.2.2.2.2.1,())) _ r1.1.1.toNat ?_ ?_ ⟨by dsimp only;omega,by simp,rfl,Ag hc h1c⟩
 ·rintro i ⟨l,k,c1,c2,c3,⟨⟩⟩ hi ⟨q1,q2,q3,q4⟩
  dsimp only at q1 q2 q3 q4
  subst q1 q3
  unfold Of
  simp only[Ac,Ae,Ab,Al]
  rw[An zq0,A4]
  refine Aj (A9 _ q4 zq4) (fun r3 ⟨_,h3c⟩=>?_)
  refine Aj (X9 _) (fun r4 _=>?_)
  refine Aj (Jm _ (Ag hc h3c) zq4) (fun r5 h5c=>?_)
  refine Aj (Bbp l _ _ zq0) (fun r6 h6=>?_)
  refine Aj (Jm _ (Ag hc h5c) zq4) (fun r7 h7c=>?_)
  refine Aj (show Tot _ (Aah (r6.1,()) r4 r7.1)from A83 r6.1 _ _ zq0) (fun r8 h8=>?_)
  refine Ah ⟨_,rfl,?_,by dsimp only;omega,rfl,(show Bn b (a0.1,r7.2.2.1,r7.2.2.2.1,())from Ag hc h7c)⟩
  dsimp only;rw[w64 zq0];omega
 ·rintro⟨l,k,c1,c2,c3,⟨⟩⟩ ⟨q1,q2,q3,q4⟩
  dsimp only at q1 q2 q3 q4
  unfold Of
  simp only[Ac,Ae,Ab,Al]
  rw[Bj zq0,Au]
  exact Ah ⟨_,rfl,by dsimp only;omega,q4⟩
theorem A84 {b:List YB} {a0:Aq} (hc:Bn b a0):Tot (fun r=>r.1.1.length≤30∧Bn b r.2) (Ahm a0):=by
 unfold Ahm Af3
 simp only[Ac,Ae,Ab,Al]
 refine Aj (Apy ((14:Int),()) hc zq4) (fun r1 ⟨h1,h1c⟩=>?_)
 refine Ar (fun _=>Ah ⟨by dsimp only;omega,Ag hc h1c⟩) (fun hz=>?_)
 have hpos:0<r1.1.1.length:=by
  rcases Nat.eq_zero_or_pos r1.1.1.length with q|q
  ·rw[q]at hz;simp at hz
  ·exact q
 refine Aj (A9 _ (Ag hc h1c) zq2) (fun r2 ⟨h2,h2c⟩=>?_)
 have h2b:0≤r2.1.1∧r2.1.1<(r1.1.1.length:Int):=⟨h2.1,by rcases h2.2 with q|q<;>(try dsimp only at q)<;>omega⟩
 refine Aj (A9 _ (Ag hc h2c) zq4) (fun r3 ⟨_,h3c⟩=>?_)
 have at_: ∀ {β:Type} {P:β→Prop} {f:Ak→Option β},(∀e,Tot P (f e))→Tot P (ob (idx r1.1.1 r2.1.1) f):=fun hf=>Aj (D8 (P:=fun _=>True) h2b.1 h2b.2 (fun _ _=>trivial)) (fun e _=>hf e)
 refine Ar (fun _=>?_) (fun _=>?_)
 ·exact Aj (Am1 (Ag hc h3c)) (fun r4 h4c=>at_ fun e=>Ah ⟨by simp;omega,Ag hc h4c⟩)
 refine Ar (fun _=>?_) (fun _=>?_)
 ·exact Aj (Jm _ (Ag hc h3c) zq4) (fun r4 h4c=>at_ fun e=>Ah ⟨by simp;omega,Ag hc h4c⟩)
 refine Ar (fun _=>?_) (fun _=>?_)
 ·exact at_ fun e=>Aj (Jm _ (Ag hc h3c) zq3) (fun r4 h4c=>at_ fun e=>Ah ⟨by simp;omega,Ag hc h4c⟩)
 refine Ar (fun _=>?_) (fun _=>Ah ⟨by dsimp only;omega,Ag hc h3c⟩)
 exact at_ fun e=>Dh (An zq1) (Ah ⟨by simp;omega,Ag hc h3c⟩)
theorem A5v {b:List YB} {a0:Aq} (hc:Bn b a0):Tot (fun r=>(r.1.1.length≤3∧ ∀x∈r.1.1,x.1.length≤32)∧Bn b r.2) (Acv a0):=by
 unfold Acv Aa5
 simp only[Ac,Ae,Ab,Al]
 refine Aj (A9 _ hc zq4) (fun r1 ⟨h1,h1c⟩=>?_)
 have h1b:0≤r1.1.1∧r1.1.1<3:=⟨h1.1,by rcases h1.2 with q|q<;>(try dsimp only at q)<;>omega⟩
 rw[w64 zq0]
 refine Aj (Q:=fun o:(List YBs)×(List YB)×Int×Int×Unit=>(o.1.length≤3∧ ∀x∈o.1,x.1.length≤32)∧Bn b (o.2.1,o.2.2.1,o.2.2.2.1,())) ?_ (fun o ho=>Ah ho)
 refine Amz (fun i d=>d.2.1=1+r1.1.1-(i:Int)∧(d.1.length≤i∧ ∀x∈d.1,x.1.length≤32)∧d.2.2.1=a0.1∧Bn b (d.2.2.1,d.2.2.2.1,d.2.2.2.2.1,())) _ (1+r1.1.1).toNat ?_ ?_ ⟨by dsimp only;omega,⟨by simp,fun x hx=>by cases hx⟩,rfl,Ag hc h1c⟩
 ·rintro i ⟨l,k,c1,c2,c3,⟨⟩⟩ hi ⟨q1,q2,q3,q4⟩
  dsimp only at q1 q2 q3 q4
  subst q1 q3
  unfold Oc
  simp only[Ac,Ae,Ab,Al]
  rw[An zq0,A4]
  refine Aj (A9 _ q4 zq4) (fun r3 ⟨h3,h3c⟩=>?_)
  have h3b:0≤r3.1.1∧r3.1.1<32:=⟨h3.1,by rcases h3.2 with q|q<;>(try dsimp only at q)<;>omega⟩
  refine Aj (Cq _ (Ag hc h3c) (by dsimp only;rw[w64 zq0];omega)) (fun r4 ⟨⟨h4,_⟩,h4c⟩=>?_)
  dsimp only at h4
  rw[w64 zq0]at h4
  refine Dh (An zq1) (Ah ⟨_,rfl,?_,⟨by simp;omega,fun x hx=>?_⟩,rfl,(show Bn b (a0.1,r4.2.2.1,r4.2.2.2.1,())from Ag hc h4c)⟩)
  ·dsimp only;rw[w64 zq0];omega
  ·dsimp only at hx
   rcases List.mem_append.1 hx with hx|hx
   ·exact q2.2 x hx
   ·simp only[List.mem_singleton]at hx
    rw[hx];omega
 ·rintro⟨l,k,c1,c2,c3,⟨⟩⟩ ⟨q1,q2,q3,q4⟩
  dsimp only at q1 q2 q3 q4
  unfold Oc
  simp only[Ac,Ae,Ab,Al]
  rw[Bj zq0,Au]
  exact Ah ⟨_,rfl,⟨by dsimp only;omega,q2.2⟩,q4⟩
def PP (M:Nat) (l:List YBs):Prop:=l.length≤M∧ ∀x∈l,x.1.length≤32
theorem PP.sum {M:Nat} {l:List YBs} (h:PP M l):Co Ik l≤M*32:=by
 have key: ∀l:List YBs,(∀x∈l,x.1.length≤32)→Co Ik l≤l.length*32:=by
  intro l
  induction l with
  |nil=>intro _;simp[Co]
  |cons a r ih=>
   intro h
   have h1:=h a zq3
   have h2:=ih (fun x hx=>h x (by simp[hx]))
   simp only[Co,Ik,List.length_cons];omega
 have h1:=key l h.2
 have h2:=h.1
 omega
def SvP (s:Az):Prop:=PP 10 s.1∧s.2.1.length≤64∧s.2.2.1.length≤64∧TP 40 40000 (s.2.2.2.2.1,s.2.2.2.2.2.1,())∧s.2.2.2.2.2.2.1.length≤40
theorem SvP.need {s:Az} (h:SvP s):A3 s≤2000000:=by
 obtain⟨h1,h2,h3,h4,h5⟩:=h
 have e1:=h1.sum
 have e2:=h1.1
 have e3:=h4.need
 have e4:=h4.1
 simp only[Bg]at e3
 simp only[A3]
 dsimp only at e4
 omega
theorem Awf (ps:List YBs×Unit) (sd:YBs) (n:YI) (hp:PP 5 ps.1) (hs:sd.1.length≤32):Tot (fun r=>PP 5 r.1∧r.2.1.length≤32∧r.2.2.1.length≤32∧r.2.2.2.2.2.1.length=0) (Ut ps sd n):=by
 obtain⟨t,ht1,ht2,ht3⟩:=Amm n
 have h1:=A2p (sd.1,(0:Int),())
 have h2:=Ah8 (Ge (sd.1,(0:Int),())).2
 have h3:=hp.sum
 have h4:=hp.1
 simp only[Bg]at ht3
 unfold Ut Ud
 simp only[Ac,Ae,Ab]
 rw[Bba _ zq2]
 simp only[Ai,Arf,ht2]
 rw[Bbb ps.1 zq0]
 simp only[Ai]
 have hn:A3 (ps.1,N5 (Ge (sd.1,(0:Int),())).2,(Ge (sd.1,(0:Int),())).1.1,(Ge (sd.1,(0:Int),())).1.2.1,t.1,t.2.1,[],())≤1000:=by
  simp only[A3,h1,List.length_nil];omega
 rw[Ah4 _ zq0]
 simp only[Ai]
 refine Ar (fun _=>?_) (fun _=>?_)
 ·exact Ah ⟨⟨by simp,fun x hx=>by cases hx⟩,by simp,by simp,rfl⟩
 ·exact Ah ⟨hp,h2,by rw[h1];exact hs,by dsimp only;omega⟩
theorem A85 {b:List YB} {a0:Aq} (hc:Bn b a0):Tot (fun r=>r.1.1.length≤32∧Bn b r.2) (Ahg a0):=by
 unfold Ahg Afx
 simp only[Ac,Ae,Ab,Al]
 refine Aj (Cq _ hc zq4) (fun r1 ⟨_,h1c⟩=>?_)
 rw[show Mx r1.1=_ from Arf r1.1.1,Ai]
 refine Aj (Cr _ (Ag hc h1c) zq4) (fun r3 h3c=>?_)
 refine Ar (fun _=>?_) (fun _=>Ah ⟨Ah8 _,Ag hc h3c⟩)
 refine Aj (Bv _ 0 32 (Ag hc h3c) zq4 zq4) (fun r4 ⟨h4,h4c⟩=>?_)
 exact Aj (Cq _ (Ag hc h4c) zq0) (fun r5 ⟨⟨h5,_⟩,h5c⟩=>Ah ⟨by dsimp only;omega,Ag hc h5c⟩)
theorem A86 {b:List YB} {a0:Aq} (x y:List YBs×Unit) (hc:Bn b a0) (hx:PP 5 x.1) (hy:PP 5 y.1):Tot (fun r=>PP 5 r.1.1∧Bn b r.2) (Ahf a0 x y):=by
 unfold Ahf Afw
 simp only[Ac,Ae,Ab,Al]
 refine Aj (Cr _ hc zq4) (fun r1 h1c=>?_)
 exact Ar (fun _=>Ah ⟨hx,Ag hc h1c⟩) (fun _=>Ah ⟨hy,Ag hc h1c⟩)
end
end Go.Proofs.YtfljmgnghlpapaaGreat

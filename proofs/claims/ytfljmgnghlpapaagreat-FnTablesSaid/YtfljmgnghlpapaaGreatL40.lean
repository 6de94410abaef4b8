/-
  That the program and the reference answer alike, in plain terms, and that the laws answer true.
-/
import Derived.Test.YtfljmgnghlpapaaGreatL36
namespace Go.Proofs.YtfljmgnghlpapaaGreat
open Go.RowKit
set_option linter.unusedVariables false
set_option linter.unusedSimpArgs false
set_option maxRecDepth 100000
set_option maxHeartbeats 4000000
noncomputable section
def Tot {α:Type} (P:α→Prop) (o:Option α):Prop:=∃a,o=some a∧P a
theorem Ag {α β:Type} {x:Option α} {f:α→Option β} {Q:α→Prop} {P:β→Prop} (h:Tot Q x) (k: ∀a,Q a→Tot P (f a)):Tot P (ob x f):=by
 obtain⟨a,rfl,ha⟩:=h
 exact k a ha
theorem An {β:Type} {c:Bool} {x y:Option β} {P:β→Prop} (h1:c=true→Tot P x) (h2:c=false→Tot P y):Tot P (br c x y):=by
 cases c with
 |true=>exact h1 rfl
 |false=>exact h2 rfl
theorem Dr {β:Type} {c:Bool} {x:Option β} {P:β→Prop} (h:c=true) (k:Tot P x):Tot P (chk c x):=by
 rw[h];exact k
theorem Ae {β:Type} {a:β} {P:β→Prop} (h:P a):Tot P (some a):=⟨a,rfl,h⟩
theorem Tot.mono {α:Type} {P Q:α→Prop} {o:Option α} (h:Tot P o) (k: ∀a,P a→Q a):Tot Q o:=by
 obtain⟨a,e,p⟩:=h
 exact⟨a,e,k a p⟩
def Bw (b:List YB) (c:Ap):Prop:=b.length≤1048576∧c.1=b∧0≤c.2.1∧c.2.1≤b.length
theorem Ad {b:List YB} {c r:Ap} (h0:Bw b c) (h:Bw b r):Bw b (c.1,r.2.1,r.2.2.1,()):=⟨h.1,h0.2.1,h.2.2⟩
theorem Azr (x:BitVec IntKind.i64.bits):(x &&& BitVec.ofInt IntKind.i64.bits 255).toNat≤255:=by
 rw[BitVec.toNat_and]
 have e:(BitVec.ofInt IntKind.i64.bits 255).toNat=255:=by decide
 rw[e]
 exact Nat.and_le_right
theorem Gc {α:Type} {l:List α} {i:Int} {P:α→Prop} (h0:0≤i) (h1:i<(l.length:Int)) (hm: ∀x,x∈l→P x):Tot P (idx l i):=by
 obtain⟨n,rfl⟩: ∃n:Nat,i=n:=⟨i.toNat,by omega⟩
 have hlt:n<l.length:=by omega
 exact⟨l[n],B7 (List.getElem?_eq_getElem hlt),hm _ (List.getElem_mem hlt)⟩
theorem Jm {b:List YB} {c:Ap} (h:Bw b c):Tot (fun r=>(0≤r.1.1∧r.1.1≤255)∧Bw b r.2) (Gf c):=by
 obtain⟨h1,h2,h3,h4⟩:=h
 have key: ∀(x:BitVec IntKind.i64.bits),0≤IntKind.i64.wrap ((x &&& BitVec.ofInt IntKind.i64.bits 255).toNat:Nat)∧IntKind.i64.wrap ((x &&& BitVec.ofInt IntKind.i64.bits 255).toNat:Nat)≤255:=fun x=>by
  have:=Azr x
  rw[w64 zq0];omega
 unfold Gf V9
 simp only[Ah,Ai,Ab,Am]
 refine An (fun hb=>?_) (fun hb=>?_)
 ·have hlt:c.2.1<(c.1.length:Int):=of_decide_eq_true hb
  rw[h2]at hlt
  refine Ag (Gc (P:=fun _=>True) h3 (by rw[h2];exact hlt) (fun _ _=>trivial)) (fun e _=>?_)
  refine Ae ⟨key _,h1,h2,?_,?_⟩
  ·dsimp only;rw[w64 zq0];omega
  ·dsimp only;rw[w64 zq0];omega
 ·exact Ae ⟨key _,h1,h2,h3,h4⟩
theorem Ba {b:List YB} {c:Ap} (n:YI) (h:Bw b c) (hn:n.1≤16777216):Tot (fun r=>(0≤r.1.1∧(r.1.1<n.1∨r.1.1=0))∧Bw b r.2) (A6 c n):=by
 unfold A6 Tq
 simp only[Ah,Ai,Ab,Am]
 refine An (fun hb=>Ae ⟨⟨Int.le_refl _,.inr rfl⟩,h⟩) (fun hb=>?_)
 have h0: ¬n.1≤0:=of_decide_eq_false hb
 refine An (fun hb2=>?_) (fun hb2=>?_)
 ·refine Ag (Jm h) (fun r hr=>?_)
  refine Dr (Ao zq0) (Dr (Ao zq0) (Ae ⟨⟨Int.emod_nonneg _ zq0,.inl (Int.emod_lt_of_pos _ zq0)⟩,Ad h hr.2⟩))
 ·refine Ag (Jm h) (fun r1 hr1=>?_)
  refine Ag (Jm (Ad h hr1.2)) (fun r2 hr2=>?_)
  refine Ag (Jm (Ad h hr2.2)) (fun r3 hr3=>?_)
  have e:IntKind.i64.wrap (IntKind.i64.wrap (IntKind.i64.wrap (r1.1.1*65536)+IntKind.i64.wrap (r2.1.1*256))+r3.1.1)=r1.1.1*65536+r2.1.1*256+r3.1.1:=by
   rw[w64 (n:=r1.1.1*65536) zq0,w64 (n:=r2.1.1*256) zq0,w64 (n:=r1.1.1*65536+r2.1.1*256) zq0,w64 zq0]
  rw[e]
  refine Dr (Ao zq0) (Dr (Ao zq0) (Ae ⟨⟨Int.emod_nonneg _ zq0,.inl (Int.emod_lt_of_pos _ zq0)⟩,Ad h hr3.2⟩))
theorem Bz {b:List YB} {c:Ap} (n:YI) (h:Bw b c) (hn:n.1≤16777216):Tot (fun r=>Bw b r.2) (Bp c n):=by
 unfold Bp Wp
 simp only[Ah,Ai,Ab,Am]
 exact Ag (Ba n h hn) (fun r hr=>Ae (Ad h hr.2))
theorem Bh {b:List YB} {c:Ap} (l:List YI) (lo hi:Int) (h:Bw b c) (hl:0<l.length∧l.length≤256) (hm: ∀x∈l,lo≤x.1∧x.1≤hi):Tot (fun r=>(lo≤r.1.1∧r.1.1≤hi)∧Bw b r.2) (Be c (l,())):=by
 unfold Be Aa3
 simp only[Ah,Ai,Ab,Am]
 refine Ag (Ba _ h zq2) (fun r hr=>?_)
 obtain⟨⟨r1,r2⟩,r3⟩:=hr
 dsimp only at r2
 exact Ag (Gc r1 zq0 hm) (fun x hx=>Ae ⟨hx,Ad h r3⟩)
theorem Awx {l:List YB} {x:YB} (h:wfB l) (hx:0≤x.1∧x.1≤255):wfB (l++[x]):=fun i y hy=>by
 rcases Nat.lt_or_ge i l.length with hlt|hge
 ·rw[List.getElem?_append_left hlt]at hy;exact h i y hy
 ·rw[List.getElem?_append_right hge]at hy
  cases hi:i-l.length with
  |zero=>rw[hi]at hy;simp only[List.getElem?_cons_zero,Option.some.injEq]at hy;rw[←hy];exact hx
  |succ k=>rw[hi]at hy;simp at hy
theorem Au8 {D O:Type} {B:D→Option (D⊕O)} (Q:Nat→D→Prop) (R:O→Prop) (n:Nat) (hs: ∀i d,i<n→Q i d→Tot (fun s=>∃d',s= .inl d'∧Q (i+1) d') (B d)) (he: ∀d,Q n d→Tot (fun s=>∃o,s= .inr o∧R o) (B d)) {d:D} (h:Q 0 d):Tot R (As B d):=by
 have key: ∀k i d,i+k=n→Q i d→Tot R (As B d):=by
  intro k
  induction k with
  |zero=>
   intro i d hi hq
   have e:i=n:=by omega
   subst e
   obtain⟨s,e,o,rfl,ho⟩:=he d hq
   rw[Cr,e]
   exact⟨o,rfl,ho⟩
  |succ k ih=>
   intro i d hi hq
   obtain⟨s,e,d',rfl,hq'⟩:=hs i d zq0 hq
   rw[Cr,e]
   exact ih (i+1) d' zq0 hq'
 exact key n 0 d zq0 h
theorem Mn {D O:Type} {B:D→Option (D⊕O)} (Q:Nat→D→Prop) (R:O→Prop) (n:Nat) (hs: ∀i d,i≤n→Q i d→Tot (fun s=>(∃d',s= .inl d'∧i<n∧Q (i+1) d')∨ ∃o,s= .inr o∧R o) (B d)) {d:D} (h:Q 0 d):Tot R (As B d):=by
 have key: ∀k i d,i+k=n→Q i d→Tot R (As B d):=by
  intro k
  induction k with
  |zero=>
   intro i d hi hq
   obtain⟨s,e,⟨d',rfl,hlt,hq'⟩|⟨o,rfl,ho⟩⟩:=hs i d zq0 hq
   ·omega
   ·rw[Cr,e];exact⟨o,rfl,ho⟩
  |succ k ih=>
   intro i d hi hq
   obtain⟨s,e,⟨d',rfl,hlt,hq'⟩|⟨o,rfl,ho⟩⟩:=hs i d zq0 hq
   ·rw[Cr,e];exact ih (i+1) d' zq0 hq'
   ·rw[Cr,e];exact⟨o,rfl,ho⟩
 exact key n 0 d zq0 h
theorem Ch {b:List YB} {c:Ap} (n:YI) (h:Bw b c) (hn:n.1≤1000000):Tot (fun r=>(r.1.1.length=n.1.toNat∧wfB r.1.1)∧Bw b r.2) (Ca c n):=by
 have hloop:Tot (fun o:(List YB)×(List YB)×Int×Int×Unit=>(o.1.length=n.1.toNat∧wfB o.1)∧Bw b (o.2.1,o.2.2.1,o.2.2.2.1,())) (As Hx (n.1,([]:List YB),(0:Int),c.1,c.2.1,c.2.2.1,())):=by
  refine Au8 (fun i d=>d.1=n.1∧d.2.1.length=i∧wfB d.2.1∧d.2.2.1=(i:Int)∧Bw b (d.2.2.2.1,d.2.2.2.2.1,d.2.2.2.2.2.1,())) _ n.1.toNat ?_ ?_ ⟨rfl,rfl,Fp,rfl,h⟩
  ·rintro i ⟨m,l,j,c1,c2,c3,⟨⟩⟩ hi ⟨q1,q2,q3,q4,q5⟩
   dsimp only at q1 q2 q3 q4 q5
   subst q1 q4
   unfold Hx
   simp only[Ah,Ai,Ab,Am]
   rw[Ao zq0,A9]
   refine Ag (Jm q5) (fun r hr=>?_)
   refine Dr (Ao zq1) (Ae ⟨_,rfl,rfl,?_,Awx q3 (A0l _),?_,?_⟩)
   ·simp;omega
   ·dsimp only;rw[w64 zq0];omega
   ·have:=Ad q5 hr.2;exact this
  ·rintro⟨m,l,j,c1,c2,c3,⟨⟩⟩ ⟨q1,q2,q3,q4,q5⟩
   dsimp only at q1 q2 q3 q4 q5
   subst q1 q4
   unfold Hx
   simp only[Ah,Ai,Ab,Am]
   rw[Bn zq0,A1]
   exact Ae ⟨_,rfl,⟨q2,q3⟩,q5⟩
 unfold Ca Tr
 simp only[Ah,Ai,Ab,Am]
 exact Ag hloop (fun o ho=>Ae ho)
theorem Acx (c:YBs) (h:c.1.length≤1048576):Tot (fun r=>Bw c.1 r) (Om c):=by
 have hloop:Tot (fun o:((List YB)×Int×Unit)=>o.1=c.1) (As Nq (c.1,(IntKind.i64.wrap ((127812:Int)+(c.1.length:Int))),(0:Int),())):=by
  refine Mn (fun i d=>d.1=c.1∧d.2.2.1=(i:Int)) _ c.1.length ?_ ⟨rfl,rfl⟩
  rintro i ⟨l,a,j,⟨⟩⟩ hi ⟨q1,q2⟩
  dsimp only at q1 q2
  subst q1 q2
  unfold Nq
  simp only[Ah,Ai,Ab,Am]
  refine An (fun h1=>?_) (fun h1=>Ae (.inr ⟨_,rfl,rfl⟩))
  have h1:=of_decide_eq_true h1
  refine An (fun h2=>?_) (fun h2=>Ae (.inr ⟨_,rfl,rfl⟩))
  refine Ag (Gc (P:=fun _=>True) zq0 zq0 (fun _ _=>trivial)) (fun e _=>Ae (.inl ⟨_,rfl,by omega,rfl,?_⟩))
  show IntKind.i64.wrap ((i:Int)+1)=((i+1:Nat):Int)
  rw[w64 zq0];omega
 unfold Om Aaq
 simp only[Ah,Ai,Ab,Am]
 exact Ag hloop (fun o ho=>Ae ⟨h,ho,Int.le_refl _,by dsimp only;omega⟩)
end
end Go.Proofs.YtfljmgnghlpapaaGreat

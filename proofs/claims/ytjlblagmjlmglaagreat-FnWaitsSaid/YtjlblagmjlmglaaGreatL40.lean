/-
  That the program and the reference answer alike, in plain terms, and that the laws answer true.
-/
import Derived.Test.YtjlblagmjlmglaaGreatL35
namespace Go.Proofs.YtjlblagmjlmglaaGreat
open Go.RowKit
set_option linter.unusedVariables false
set_option linter.unusedSimpArgs false
set_option maxRecDepth 100000
set_option maxHeartbeats 4000000
noncomputable section
def Tot {α:Type} (P:α→Prop) (o:Option α):Prop:=∃a,o=some a∧P a
theorem Am {α β:Type} {x:Option α} {f:α→Option β} {Q:α→Prop} {P:β→Prop} (h:Tot Q x) (k: ∀a,Q a→Tot P (f a)):Tot P (ob x f):=by
 obtain⟨a,rfl,ha⟩:=h
 exact k a ha
theorem As {β:Type} {c:Bool} {x y:Option β} {P:β→Prop} (h1:c=true→Tot P x) (h2:c=false→Tot P y):Tot P (br c x y):=by
 cases c with
 |true=>exact h1 rfl
 |false=>exact h2 rfl
theorem Fd {β:Type} {c:Bool} {x:Option β} {P:β→Prop} (h:c=true) (k:Tot P x):Tot P (chk c x):=by
 rw[h];exact k
theorem Ak {β:Type} {a:β} {P:β→Prop} (h:P a):Tot P (some a):=⟨a,rfl,h⟩
theorem Tot.mono {α:Type} {P Q:α→Prop} {o:Option α} (h:Tot P o) (k: ∀a,P a→Q a):Tot Q o:=by
 obtain⟨a,e,p⟩:=h
 exact⟨a,e,k a p⟩
def Cd (b:List YB) (c:Aw):Prop:=b.length≤1048576∧c.1=b∧0≤c.2.1∧c.2.1≤b.length
theorem Ag {b:List YB} {c r:Aw} (h0:Cd b c) (h:Cd b r):Cd b (c.1,r.2.1,r.2.2.1,()):=⟨h.1,h0.2.1,h.2.2⟩
theorem Bcn (x:BitVec IntKind.i64.bits):(x &&& BitVec.ofInt IntKind.i64.bits 255).toNat≤255:=by
 rw[BitVec.toNat_and]
 have e:(BitVec.ofInt IntKind.i64.bits 255).toNat=255:=by decide
 rw[e]
 exact Nat.and_le_right
theorem Aey {α:Type} {l:List α} {i:Int} {P:α→Prop} (h0:0≤i) (h1:i<(l.length:Int)) (hm: ∀x,x∈l→P x):Tot P (idx l i):=by
 obtain⟨n,rfl⟩: ∃n:Nat,i=n:=⟨i.toNat,by omega⟩
 have hlt:n<l.length:=by omega
 exact⟨l[n],Dz (List.getElem?_eq_getElem hlt),hm _ (List.getElem_mem hlt)⟩
theorem Mb {b:List YB} {c:Aw} (h:Cd b c):Tot (fun r=>(0≤r.1.1∧r.1.1≤255)∧Cd b r.2) (Hw c):=by
 obtain⟨h1,h2,h3,h4⟩:=h
 have key: ∀(x:BitVec IntKind.i64.bits),0≤IntKind.i64.wrap ((x &&& BitVec.ofInt IntKind.i64.bits 255).toNat:Nat)∧IntKind.i64.wrap ((x &&& BitVec.ofInt IntKind.i64.bits 255).toNat:Nat)≤255:=fun x=>by
  have:=Bcn x
  rw[w64 zq0];omega
 unfold Hw Afe
 simp only[Ai,Aj,Ad,Ap]
 refine As (fun hb=>?_) (fun hb=>?_)
 ·have hlt:c.2.1<(c.1.length:Int):=of_decide_eq_true hb
  rw[h2]at hlt
  refine Am (Aey (P:=fun _=>True) h3 (by rw[h2];exact hlt) (fun _ _=>trivial)) (fun e _=>?_)
  refine Ak ⟨key _,h1,h2,?_,?_⟩
  ·dsimp only;rw[w64 zq0];omega
  ·dsimp only;rw[w64 zq0];omega
 ·exact Ak ⟨key _,h1,h2,h3,h4⟩
theorem Bj {b:List YB} {c:Aw} (n:YI) (h:Cd b c) (hn:n.1≤16777216):Tot (fun r=>(0≤r.1.1∧(r.1.1<n.1∨r.1.1=0))∧Cd b r.2) (Bi c n):=by
 unfold Bi Abp
 simp only[Ai,Aj,Ad,Ap]
 refine As (fun hb=>Ak ⟨⟨Int.le_refl _,.inr rfl⟩,h⟩) (fun hb=>?_)
 have h0: ¬n.1≤0:=of_decide_eq_false hb
 refine As (fun hb2=>?_) (fun hb2=>?_)
 ·refine Am (Mb h) (fun r hr=>?_)
  refine Fd (Ao zq0) (Fd (Ao zq0) (Ak ⟨⟨Int.emod_nonneg _ zq0,.inl (Int.emod_lt_of_pos _ zq0)⟩,Ag h hr.2⟩))
 ·refine Am (Mb h) (fun r1 hr1=>?_)
  refine Am (Mb (Ag h hr1.2)) (fun r2 hr2=>?_)
  refine Am (Mb (Ag h hr2.2)) (fun r3 hr3=>?_)
  have e:IntKind.i64.wrap (IntKind.i64.wrap (IntKind.i64.wrap (r1.1.1*65536)+IntKind.i64.wrap (r2.1.1*256))+r3.1.1)=r1.1.1*65536+r2.1.1*256+r3.1.1:=by
   rw[w64 (n:=r1.1.1*65536) zq0,w64 (n:=r2.1.1*256) zq0,w64 (n:=r1.1.1*65536+r2.1.1*256) zq0,w64 zq0]
  rw[e]
  refine Fd (Ao zq0) (Fd (Ao zq0) (Ak ⟨⟨Int.emod_nonneg _ zq0,.inl (Int.emod_lt_of_pos _ zq0)⟩,Ag h hr3.2⟩))
theorem Cz {b:List YB} {c:Aw} (n:YI) (h:Cd b c) (hn:n.1≤16777216):Tot (fun r=>Cd b r.2) (Cn c n):=by
 unfold Cn Af4
 simp only[Ai,Aj,Ad,Ap]
 exact Am (Bj n h hn) (fun r hr=>Ak (Ag h hr.2))
theorem A7 {b:List YB} {c:Aw} (l:List YI) (lo hi:Int) (h:Cd b c) (hl:0<l.length∧l.length≤256) (hm: ∀x∈l,lo≤x.1∧x.1≤hi):Tot (fun r=>(lo≤r.1.1∧r.1.1≤hi)∧Cd b r.2) (A6 c (l,())):=by
 unfold A6 Ajm
 simp only[Ai,Aj,Ad,Ap]
 refine Am (Bj _ h zq2) (fun r hr=>?_)
 obtain⟨⟨r1,r2⟩,r3⟩:=hr
 dsimp only at r2
 exact Am (Aey r1 zq0 hm) (fun x hx=>Ak ⟨hx,Ag h r3⟩)
theorem A9v {l:List YB} {x:YB} (h:wfB l) (hx:0≤x.1∧x.1≤255):wfB (l++[x]):=fun i y hy=>by
 rcases Nat.lt_or_ge i l.length with hlt|hge
 ·rw[List.getElem?_append_left hlt]at hy;exact h i y hy
 ·rw[List.getElem?_append_right hge]at hy
  cases hi:i-l.length with
  |zero=>rw[hi]at hy;simp only[List.getElem?_cons_zero,Option.some.injEq]at hy;rw[←hy];exact hx
  |succ k=>rw[hi]at hy;simp at hy
theorem Bco {D O:Type} {B:D→Option (D⊕O)} (Q:Nat→D→Prop) (R:O→Prop) (n:Nat) (hs: ∀i d,i<n→Q i d→Tot (fun s=>∃d',s= .inl d'∧Q (i+1) d') (B d)) (he: ∀d,Q n d→Tot (fun s=>∃o,s= .inr o∧R o) (B d)) {d:D} (h:Q 0 d):Tot R (Az B d):=by
 have key: ∀k i d,i+k=n→Q i d→Tot R (Az B d):=by
  intro k
  induction k with
  |zero=>
   intro i d hi hq
   have e:i=n:=by omega
   subst e
   obtain⟨s,e,o,rfl,ho⟩:=he d hq
   rw[Cf,e]
   exact⟨o,rfl,ho⟩
  |succ k ih=>
   intro i d hi hq
   obtain⟨s,e,d',rfl,hq'⟩:=hs i d zq0 hq
   rw[Cf,e]
   exact ih (i+1) d' zq0 hq'
 exact key n 0 d zq0 h
theorem Wy {D O:Type} {B:D→Option (D⊕O)} (Q:Nat→D→Prop) (R:O→Prop) (n:Nat) (hs: ∀i d,i≤n→Q i d→Tot (fun s=>(∃d',s= .inl d'∧i<n∧Q (i+1) d')∨ ∃o,s= .inr o∧R o) (B d)) {d:D} (h:Q 0 d):Tot R (Az B d):=by
 have key: ∀k i d,i+k=n→Q i d→Tot R (Az B d):=by
  intro k
  induction k with
  |zero=>
   intro i d hi hq
   obtain⟨s,e,⟨d',rfl,hlt,hq'⟩|⟨o,rfl,ho⟩⟩:=hs i d zq0 hq
   ·omega
   ·rw[Cf,e];exact⟨o,rfl,ho⟩
  |succ k ih=>
   intro i d hi hq
   obtain⟨s,e,⟨d',rfl,hlt,hq'⟩|⟨o,rfl,ho⟩⟩:=hs i d zq0 hq
   ·rw[Cf,e];exact ih (i+1) d' zq0 hq'
   ·rw[Cf,e];exact⟨o,rfl,ho⟩
 exact key n 0 d zq0 h
theorem Ba {b:List YB} {c:Aw} (n:YI) (h:Cd b c) (hn:n.1≤1000000):Tot (fun r=>(r.1.1.length=n.1.toNat∧wfB r.1.1)∧Cd b r.2) (A9 c n):=by
 have hloop:Tot (fun o:(List YB)×(List YB)×Int×Int×Unit=>(o.1.length=n.1.toNat∧wfB o.1)∧Cd b (o.2.1,o.2.2.1,o.2.2.2.1,())) (Az Jx (n.1,([]:List YB),(0:Int),c.1,c.2.1,c.2.2.1,())):=by
  refine Bco (fun i d=>d.1=n.1∧d.2.1.length=i∧wfB d.2.1∧d.2.2.1=(i:Int)∧Cd b (d.2.2.2.1,d.2.2.2.2.1,d.2.2.2.2.2.1,())) _ n.1.toNat ?_ ?_ ⟨rfl,rfl,Gy,rfl,h⟩
  ·rintro i ⟨m,l,j,c1,c2,c3,⟨⟩⟩ hi ⟨q1,q2,q3,q4,q5⟩
   dsimp only at q1 q2 q3 q4 q5
   subst q1 q4
   unfold Jx
   simp only[Ai,Aj,Ad,Ap]
   rw[Ao zq0,Ax]
   refine Am (Mb q5) (fun r hr=>?_)
   refine Fd (Ao zq1) (Ak ⟨_,rfl,rfl,?_,A9v q3 (u8_in _),?_,?_⟩)
   ·simp;omega
   ·dsimp only;rw[w64 zq0];omega
   ·have:=Ag q5 hr.2;exact this
  ·rintro⟨m,l,j,c1,c2,c3,⟨⟩⟩ ⟨q1,q2,q3,q4,q5⟩
   dsimp only at q1 q2 q3 q4 q5
   subst q1 q4
   unfold Jx
   simp only[Ai,Aj,Ad,Ap]
   rw[Bb zq0,Aq]
   exact Ak ⟨_,rfl,⟨q2,q3⟩,q5⟩
 unfold A9 Abq
 simp only[Ai,Aj,Ad,Ap]
 exact Am hloop (fun o ho=>Ak ho)
theorem A73 (c:YBs) (h:c.1.length≤1048576):Tot (fun r=>Cd c.1 r) (Ak4 c):=by
 have hloop:Tot (fun o:((List YB)×Int×Unit)=>o.1=c.1) (Az Q8 (c.1,(IntKind.i64.wrap ((127812:Int)+(c.1.length:Int))),(0:Int),())):=by
  refine Wy (fun i d=>d.1=c.1∧d.2.2.1=(i:Int)) _ c.1.length ?_ ⟨rfl,rfl⟩
  rintro i ⟨l,a,j,⟨⟩⟩ hi ⟨q1,q2⟩
  dsimp only at q1 q2
  subst q1 q2
  unfold Q8
  simp only[Ai,Aj,Ad,Ap]
  refine As (fun h1=>?_) (fun h1=>Ak (.inr ⟨_,rfl,rfl⟩))
  have h1:=of_decide_eq_true h1
  refine As (fun h2=>?_) (fun h2=>Ak (.inr ⟨_,rfl,rfl⟩))
  refine Am (Aey (P:=fun _=>True) zq0 zq0 (fun _ _=>trivial)) (fun e _=>Ak (.inl ⟨_,rfl,by omega,rfl,?_⟩))
  show IntKind.i64.wrap ((i:Int)+1)=((i+1:Nat):Int)
  rw[w64 zq0];omega
 unfold Ak4 Ajk
 simp only[Ai,Aj,Ad,Ap]
 exact Am hloop (fun o ho=>Ak ⟨h,ho,Int.le_refl _,by dsimp only;omega⟩)
end
end Go.Proofs.YtjlblagmjlmglaaGreat

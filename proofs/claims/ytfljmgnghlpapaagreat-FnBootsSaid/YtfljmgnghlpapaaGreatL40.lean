/-
  That the program and the reference answer alike, in plain terms, and that the laws answer true.
-/
import Derived.Test.YtfljmgnghlpapaaGreatL36
namespace Go.Proofs.YtfljmgnghlpapaaGreat
open Go.RowKit
set_option linter.unusedVariables false
set_option linter.unusedSimpArgs false
set_option maxRecDepth 100000
set_option maxHeartbeats 4000000
noncomputable section
def Tot {α:Type} (P:α→Prop) (o:Option α):Prop:=∃a,o=some a∧P a
theorem Aj {α β:Type} {x:Option α} {f:α→Option β} {Q:α→Prop} {P:β→Prop} (h:Tot Q x) (k: ∀a,Q a→Tot P (f a)):Tot P (ob x f):=by
 obtain⟨a,rfl,ha⟩:=h
 exact k a ha
theorem Ar {β:Type} {c:Bool} {x y:Option β} {P:β→Prop} (h1:c=true→Tot P x) (h2:c=false→Tot P y):Tot P (br c x y):=by
 cases c with
 |true=>exact h1 rfl
 |false=>exact h2 rfl
theorem Dh {β:Type} {c:Bool} {x:Option β} {P:β→Prop} (h:c=true) (k:Tot P x):Tot P (chk c x):=by
 rw[h];exact k
theorem Ah {β:Type} {a:β} {P:β→Prop} (h:P a):Tot P (some a):=⟨a,rfl,h⟩
theorem Tot.mono {α:Type} {P Q:α→Prop} {o:Option α} (h:Tot P o) (k: ∀a,P a→Q a):Tot Q o:=by
 obtain⟨a,e,p⟩:=h
 exact⟨a,e,k a p⟩
def Bn (b:List YB) (c:Aq):Prop:=b.length≤1048576∧c.1=b∧0≤c.2.1∧c.2.1≤b.length
theorem Ag {b:List YB} {c r:Aq} (h0:Bn b c) (h:Bn b r):Bn b (c.1,r.2.1,r.2.2.1,()):=⟨h.1,h0.2.1,h.2.2⟩
theorem Bgv (x:BitVec IntKind.i64.bits):(x &&& BitVec.ofInt IntKind.i64.bits 255).toNat≤255:=by
 rw[BitVec.toNat_and]
 have e:(BitVec.ofInt IntKind.i64.bits 255).toNat=255:=by decide
 rw[e]
 exact Nat.and_le_right
theorem D8 {α:Type} {l:List α} {i:Int} {P:α→Prop} (h0:0≤i) (h1:i<(l.length:Int)) (hm: ∀x,x∈l→P x):Tot P (idx l i):=by
 obtain⟨n,rfl⟩: ∃n:Nat,i=n:=⟨i.toNat,by omega⟩
 have hlt:n<l.length:=by omega
 exact⟨l[n],Bk (List.getElem?_eq_getElem hlt),hm _ (List.getElem_mem hlt)⟩
theorem M5 {b:List YB} {c:Aq} (h:Bn b c):Tot (fun r=>(0≤r.1.1∧r.1.1≤255)∧Bn b r.2) (Is c):=by
 obtain⟨h1,h2,h3,h4⟩:=h
 have key: ∀(x:BitVec IntKind.i64.bits),0≤IntKind.i64.wrap ((x &&& BitVec.ofInt IntKind.i64.bits 255).toNat:Nat)∧IntKind.i64.wrap ((x &&& BitVec.ofInt IntKind.i64.bits 255).toNat:Nat)≤255:=fun x=>by
  have:=Bgv x
  rw[w64 zq0];omega
 unfold Is Ae1
 simp only[Ac,Ae,Ab,Al]
 refine Ar (fun hb=>?_) (fun hb=>?_)
 ·have hlt:c.2.1<(c.1.length:Int):=of_decide_eq_true hb
  rw[h2]at hlt
  refine Aj (D8 (P:=fun _=>True) h3 (by rw[h2];exact hlt) (fun _ _=>trivial)) (fun e _=>?_)
  refine Ah ⟨key _,h1,h2,?_,?_⟩
  ·dsimp only;rw[w64 zq0];omega
  ·dsimp only;rw[w64 zq0];omega
 ·exact Ah ⟨key _,h1,h2,h3,h4⟩
theorem A9 {b:List YB} {c:Aq} (n:YI) (h:Bn b c) (hn:n.1≤16777216):Tot (fun r=>(0≤r.1.1∧(r.1.1<n.1∨r.1.1=0))∧Bn b r.2) (A7 c n):=by
 unfold A7 Aa3
 simp only[Ac,Ae,Ab,Al]
 refine Ar (fun hb=>Ah ⟨⟨Int.le_refl _,.inr rfl⟩,h⟩) (fun hb=>?_)
 have h0: ¬n.1≤0:=of_decide_eq_false hb
 refine Ar (fun hb2=>?_) (fun hb2=>?_)
 ·refine Aj (M5 h) (fun r hr=>?_)
  refine Dh (An zq0) (Dh (An zq0) (Ah ⟨⟨Int.emod_nonneg _ zq0,.inl (Int.emod_lt_of_pos _ zq0)⟩,Ag h hr.2⟩))
 ·refine Aj (M5 h) (fun r1 hr1=>?_)
  refine Aj (M5 (Ag h hr1.2)) (fun r2 hr2=>?_)
  refine Aj (M5 (Ag h hr2.2)) (fun r3 hr3=>?_)
  have e:IntKind.i64.wrap (IntKind.i64.wrap (IntKind.i64.wrap (r1.1.1*65536)+IntKind.i64.wrap (r2.1.1*256))+r3.1.1)=r1.1.1*65536+r2.1.1*256+r3.1.1:=by
   rw[w64 (n:=r1.1.1*65536) zq0,w64 (n:=r2.1.1*256) zq0,w64 (n:=r1.1.1*65536+r2.1.1*256) zq0,w64 zq0]
  rw[e]
  refine Dh (An zq0) (Dh (An zq0) (Ah ⟨⟨Int.emod_nonneg _ zq0,.inl (Int.emod_lt_of_pos _ zq0)⟩,Ag h hr3.2⟩))
theorem Cr {b:List YB} {c:Aq} (n:YI) (h:Bn b c) (hn:n.1≤16777216):Tot (fun r=>Bn b r.2) (Ce c n):=by
 unfold Ce Afm
 simp only[Ac,Ae,Ab,Al]
 exact Aj (A9 n h hn) (fun r hr=>Ah (Ag h hr.2))
theorem Bv {b:List YB} {c:Aq} (l:List YI) (lo hi:Int) (h:Bn b c) (hl:0<l.length∧l.length≤256) (hm: ∀x∈l,lo≤x.1∧x.1≤hi):Tot (fun r=>(lo≤r.1.1∧r.1.1≤hi)∧Bn b r.2) (Bf c (l,())):=by
 unfold Bf Zx
 simp only[Ac,Ae,Ab,Al]
 refine Aj (A9 _ h zq2) (fun r hr=>?_)
 obtain⟨⟨r1,r2⟩,r3⟩:=hr
 dsimp only at r2
 exact Aj (D8 r1 zq0 hm) (fun x hx=>Ah ⟨hx,Ag h r3⟩)
theorem Bdv {l:List YB} {x:YB} (h:wfB l) (hx:0≤x.1∧x.1≤255):wfB (l++[x]):=fun i y hy=>by
 rcases Nat.lt_or_ge i l.length with hlt|hge
 ·rw[List.getElem?_append_left hlt]at hy;exact h i y hy
 ·rw[List.getElem?_append_right hge]at hy
  cases hi:i-l.length with
  |zero=>rw[hi]at hy;simp only[List.getElem?_cons_zero,Option.some.injEq]at hy;rw[←hy];exact hx
  |succ k=>rw[hi]at hy;simp at hy
theorem Amz {D O:Type} {B:D→Option (D⊕O)} (Q:Nat→D→Prop) (R:O→Prop) (n:Nat) (hs: ∀i d,i<n→Q i d→Tot (fun s=>∃d',s= .inl d'∧Q (i+1) d') (B d)) (he: ∀d,Q n d→Tot (fun s=>∃o,s= .inr o∧R o) (B d)) {d:D} (h:Q 0 d):Tot R (As B d):=by
 have key: ∀k i d,i+k=n→Q i d→Tot R (As B d):=by
  intro k
  induction k with
  |zero=>
   intro i d hi hq
   have e:i=n:=by omega
   subst e
   obtain⟨s,e,o,rfl,ho⟩:=he d hq
   rw[Db,e]
   exact⟨o,rfl,ho⟩
  |succ k ih=>
   intro i d hi hq
   obtain⟨s,e,d',rfl,hq'⟩:=hs i d zq0 hq
   rw[Db,e]
   exact ih (i+1) d' zq0 hq'
 exact key n 0 d zq0 h
theorem Qu {D O:Type} {B:D→Option (D⊕O)} (Q:Nat→D→Prop) (R:O→Prop) (n:Nat) (hs: ∀i d,i≤n→Q i d→Tot (fun s=>(∃d',s= .inl d'∧i<n∧Q (i+1) d')∨ ∃o,s= .inr o∧R o) (B d)) {d:D} (h:Q 0 d):Tot R (As B d):=by
 have key: ∀k i d,i+k=n→Q i d→Tot R (As B d):=by
  intro k
  induction k with
  |zero=>
   intro i d hi hq
   obtain⟨s,e,⟨d',rfl,hlt,hq'⟩|⟨o,rfl,ho⟩⟩:=hs i d zq0 hq
   ·omega
   ·rw[Db,e];exact⟨o,rfl,ho⟩
  |succ k ih=>
   intro i d hi hq
   obtain⟨s,e,⟨d',rfl,hlt,hq'⟩|⟨o,rfl,ho⟩⟩:=hs i d zq0 hq
   ·rw[Db,e];exact ih (i+1) d' zq0 hq'
   ·rw[Db,e];exact⟨o,rfl,ho⟩
 exact key n 0 d zq0 h
theorem Cq {b:List YB} {c:Aq} (n:YI) (h:Bn b c) (hn:n.1≤1000000):Tot (fun r=>(r.1.1.length=n.1.toNat∧wfB r.1.1)∧Bn b r.2) (Cd c n):=by
 have hloop:Tot (fun o:(List YB)×(List YB)×Int×Int×Unit=>(o.1.length=n.1.toNat∧wfB o.1)∧Bn b (o.2.1,o.2.2.1,o.2.2.2.1,())) (As Kg (n.1,([]:List YB),(0:Int),c.1,c.2.1,c.2.2.1,())):=by
  refine Amz (fun i d=>d.1=n.1∧d.2.1.length=i∧wfB d.2.1∧d.2.2.1=(i:Int)∧Bn b (d.2.2.2.1,d.2.2.2.2.1,d.2.2.2.2.2.1,())) _ n.1.toNat ?_ ?_ ⟨rfl,rfl,Fr,rfl,h⟩
  ·rintro i ⟨m,l,j,c1,c2,c3,⟨⟩⟩ hi ⟨q1,q2,q3,q4,q5⟩
   dsimp only at q1 q2 q3 q4 q5
   subst q1 q4
   unfold Kg
   simp only[Ac,Ae,Ab,Al]
   rw[An zq0,A4]
   refine Aj (M5 q5) (fun r hr=>?_)
   refine Dh (An zq1) (Ah ⟨_,rfl,rfl,?_,Bdv q3 (u8_in _),?_,?_⟩)
   ·simp;omega
   ·dsimp only;rw[w64 zq0];omega
   ·have:=Ag q5 hr.2;exact this
  ·rintro⟨m,l,j,c1,c2,c3,⟨⟩⟩ ⟨q1,q2,q3,q4,q5⟩
   dsimp only at q1 q2 q3 q4 q5
   subst q1 q4
   unfold Kg
   simp only[Ac,Ae,Ab,Al]
   rw[Bj zq0,Au]
   exact Ah ⟨_,rfl,⟨q2,q3⟩,q5⟩
 unfold Cd Aa4
 simp only[Ac,Ae,Ab,Al]
 exact Aj hloop (fun o ho=>Ah ho)
theorem Am0 (c:YBs) (h:c.1.length≤1048576):Tot (fun r=>Bn c.1 r) (Tq c):=by
 have hloop:Tot (fun o:((List YB)×Int×Unit)=>o.1=c.1) (As Sc (c.1,(IntKind.i64.wrap ((127812:Int)+(c.1.length:Int))),(0:Int),())):=by
  refine Qu (fun i d=>d.1=c.1∧d.2.2.1=(i:Int)) _ c.1.length ?_ ⟨rfl,rfl⟩
  rintro i ⟨l,a,j,⟨⟩⟩ hi ⟨q1,q2⟩
  dsimp only at q1 q2
  subst q1 q2
  unfold Sc
  simp only[Ac,Ae,Ab,Al]
  refine Ar (fun h1=>?_) (fun h1=>Ah (.inr ⟨_,rfl,rfl⟩))
  have h1:=of_decide_eq_true h1
  refine Ar (fun h2=>?_) (fun h2=>Ah (.inr ⟨_,rfl,rfl⟩))
  refine Aj (D8 (P:=fun _=>True) zq0 zq0 (fun _ _=>trivial)) (fun e _=>Ah (.inl ⟨_,rfl,by omega,rfl,?_⟩))
  show IntKind.i64.wrap ((i:Int)+1)=((i+1:Nat):Int)
  rw[w64 zq0];omega
 unfold Tq Aj0
 simp only[Ac,Ae,Ab,Al]
 exact Aj hloop (fun o ho=>Ah ⟨h,ho,Int.le_refl _,by dsimp only;omega⟩)
end
end Go.Proofs.YtfljmgnghlpapaaGreat

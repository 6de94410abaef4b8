/-
  That the program and the reference answer alike, in plain terms, and that the laws answer true.
-/
import Derived.Test.YthccfdmiejmbaaaGreatG2
namespace Go.Proofs.YthccfdmiejmbaaaGreat
open Go.RowKit
set_option linter.unusedVariables false
set_option linter.unusedSimpArgs false
set_option maxRecDepth 100000
set_option maxHeartbeats 16000000
noncomputable section
def Tot {α:Type} (P:α->Prop) (o:Option α):Prop:=∃a,o=some a/\P a
theorem Ae {α β:Type} {x:Option α} {f:α->Option β} {Q:α->Prop} {P:β->Prop} (h:Tot Q x) (k: ∀a,Q a->Tot P (f a)):Tot P (ob x f):=by
 obtain⟨a,rfl,ha⟩:=h
 exact k a ha
theorem Am {β:Type} {c:Bool} {x y:Option β} {P:β->Prop} (h1:c=true->Tot P x) (h2:c=false->Tot P y):Tot P (br c x y):=by
 cases c with
 |true=>exact h1 rfl
 |false=>exact h2 rfl
theorem Dy {β:Type} {c:Bool} {x:Option β} {P:β->Prop} (h:c=true) (k:Tot P x):Tot P (chk c x):=by
 rw[h];exact k
theorem Ag {β:Type} {a:β} {P:β->Prop} (h:P a):Tot P (some a):=⟨a,rfl,h⟩
theorem Tot.mono {α:Type} {P Q:α->Prop} {o:Option α} (h:Tot P o) (k: ∀a,P a->Q a):Tot Q o:=by
 obtain⟨a,e,p⟩:=h
 exact⟨a,e,k a p⟩
def B0 (b:List YB) (c:Aw):Prop:=b.length<=1048576/\c.1=b/\0<=c.2.1/\c.2.1<=b.length
theorem Ab {b:List YB} {c r:Aw} (h0:B0 b c) (h:B0 b r):B0 b (c.1,r.2.1,r.2.2.1,()):=⟨h.1,h0.2.1,h.2.2⟩
theorem Bw8 (x:BitVec IntKind.i64.bits):(x &&& BitVec.ofInt IntKind.i64.bits 255).toNat<=255:=by
 rw[BitVec.toNat_and]
 have e:(BitVec.ofInt IntKind.i64.bits 255).toNat=255:=by decide
 rw[e]
 exact Nat.and_le_right
theorem E9 {α:Type} {l:List α} {i:Int} {P:α->Prop} (h0:0<=i) (h1:i<(l.length:Int)) (hm: ∀x,x∈l->P x):Tot P (idx l i):=by
 obtain⟨n,rfl⟩: ∃n:Nat,i=n:=⟨i.toNat,by omega⟩
 have hlt:n<l.length:=by omega
 exact⟨l[n],B8 (List.getElem?_eq_getElem hlt),hm _ (List.getElem_mem hlt)⟩
theorem Px {b:List YB} {c:Aw} (h:B0 b c):Tot (fun r=>(0<=r.1.1/\r.1.1<=255)/\B0 b r.2) (Kp c):=by
 obtain⟨h1,h2,h3,h4⟩:=h
 have key: ∀(x:BitVec IntKind.i64.bits),0<=IntKind.i64.wrap ((x &&& BitVec.ofInt IntKind.i64.bits 255).toNat:Nat)/\IntKind.i64.wrap ((x &&& BitVec.ofInt IntKind.i64.bits 255).toNat:Nat)<=255:=fun x=>by
  have:=Bw8 x
  rw[w64 zq0];omega
 unfold Kp Aqc
 simp only[Af,Ah,Aa,Ak]
 refine Am (fun hb=>?_) (fun hb=>?_)
 .have hlt:c.2.1<(c.1.length:Int):=of_decide_eq_true hb
  rw[h2]at hlt
  refine Ae (E9 (P:=fun _=>True) h3 (by rw[h2];exact hlt) (fun _ _=>trivial)) (fun e _=>?_)
  refine Ag ⟨key _,h1,h2,?_,?_⟩
  .dsimp only;rw[w64 zq0];omega
  .dsimp only;rw[w64 zq0];omega
 .exact Ag ⟨key _,h1,h2,h3,h4⟩
theorem Bj {b:List YB} {c:Aw} (n:YI) (h:B0 b c) (hn:n.1<=16777216):Tot (fun r=>(0<=r.1.1/\(r.1.1<n.1\/r.1.1=0))/\B0 b r.2) (Be c n):=by
 unfold Be Ald
 simp only[Af,Ah,Aa,Ak]
 refine Am (fun hb=>Ag ⟨⟨Int.le_refl _,.inr rfl⟩,h⟩) (fun hb=>?_)
 have h0: ¬n.1<=0:=of_decide_eq_false hb
 refine Am (fun hb2=>?_) (fun hb2=>?_)
 .refine Ae (Px h) (fun r hr=>?_)
  refine Dy (Ai zq0) (Dy (Ai zq0) (Ag ⟨⟨Int.emod_nonneg _ zq0,.inl (Int.emod_lt_of_pos _ zq0)⟩,Ab h hr.2⟩))
 .refine Ae (Px h) (fun r1 hr1=>?_)
  refine Ae (Px (Ab h hr1.2)) (fun r2 hr2=>?_)
  refine Ae (Px (Ab h hr2.2)) (fun r3 hr3=>?_)
  have e:IntKind.i64.wrap (IntKind.i64.wrap (IntKind.i64.wrap (r1.1.1*65536)+IntKind.i64.wrap (r2.1.1*256))+r3.1.1)=r1.1.1*65536+r2.1.1*256+r3.1.1:=by
   rw[w64 (n:=r1.1.1*65536) zq0,w64 (n:=r2.1.1*256) zq0,w64 (n:=r1.1.1*65536+r2.1.1*256) zq0,w64 zq0]
  rw[e]
  refine Dy (Ai zq0) (Dy (Ai zq0) (Ag ⟨⟨Int.emod_nonneg _ zq0,.inl (Int.emod_lt_of_pos _ zq0)⟩,Ab h hr3.2⟩))
theorem Ba {b:List YB} {c:Aw} (n:YI) (h:B0 b c) (hn:n.1<=16777216):Tot (fun r=>B0 b r.2) (Ax c n):=by
 unfold Ax Aq0
 simp only[Af,Ah,Aa,Ak]
 exact Ae (Bj n h hn) (fun r hr=>Ag (Ab h hr.2))
theorem Cc {b:List YB} {c:Aw} (l:List YI) (lo hi:Int) (h:B0 b c) (hl:0<l.length/\l.length<=256) (hm: ∀x∈l,lo<=x.1/\x.1<=hi):Tot (fun r=>(lo<=r.1.1/\r.1.1<=hi)/\B0 b r.2) (Bp c (l,())):=by
 unfold Bp Aj0
 simp only[Af,Ah,Aa,Ak]
 refine Ae (Bj _ h zq2) (fun r hr=>?_)
 obtain⟨⟨r1,r2⟩,r3⟩:=hr
 dsimp only at r2
 exact Ae (E9 r1 zq0 hm) (fun x hx=>Ag ⟨hx,Ab h r3⟩)
theorem Ww {l:List YB} {x:YB} (h:wfB l) (hx:0<=x.1/\x.1<=255):wfB (l++[x]):=fun i y hy=>by
 rcases Nat.lt_or_ge i l.length with hlt|hge
 .rw[List.getElem?_append_left hlt]at hy;exact h i y hy
 .rw[List.getElem?_append_right hge]at hy
  cases hi:i-l.length with
  |zero=>rw[hi]at hy;simp only[List.getElem?_cons_zero,Option.some.injEq]at hy;rw[<-hy];exact hx
  |succ k=>rw[hi]at hy;simp at hy
theorem A0b {D O:Type} {B:D->Option (D⊕O)} (Q:Nat->D->Prop) (R:O->Prop) (n:Nat) (hs: ∀i d,i<n->Q i d->Tot (fun s=>∃d',s= .inl d'/\Q (i+1) d') (B d)) (he: ∀d,Q n d->Tot (fun s=>∃o,s= .inr o/\R o) (B d)) {d:D} (h:Q 0 d):Tot R (A0 B d):=by
 have key: ∀k i d,i+k=n->Q i d->Tot R (A0 B d):=by
  intro k
  induction k with
  |zero=>
   intro i d hi hq
   have e:i=n:=by omega
   subst e
   obtain⟨s,e,o,rfl,ho⟩:=he d hq
   rw[Eo,e]
   exact⟨o,rfl,ho⟩
  |succ k ih=>
   intro i d hi hq
   obtain⟨s,e,d',rfl,hq'⟩:=hs i d zq0 hq
   rw[Eo,e]
   exact ih (i+1) d' zq0 hq'
 exact key n 0 d zq0 h
theorem Aap {D O:Type} {B:D->Option (D⊕O)} (Q:Nat->D->Prop) (R:O->Prop) (n:Nat) (hs: ∀i d,i<=n->Q i d->Tot (fun s=>(∃d',s= .inl d'/\i<n/\Q (i+1) d')\/ ∃o,s= .inr o/\R o) (B d)) {d:D} (h:Q 0 d):Tot R (A0 B d):=by
 have key: ∀k i d,i+k=n->Q i d->Tot R (A0 B d):=by
  intro k
  induction k with
  |zero=>
   intro i d hi hq
   obtain⟨s,e,⟨d',rfl,hlt,hq'⟩|⟨o,rfl,ho⟩⟩:=hs i d zq0 hq
   .omega
   .rw[Eo,e];exact⟨o,rfl,ho⟩
  |succ k ih=>
   intro i d hi hq
   obtain⟨s,e,⟨d',rfl,hlt,hq'⟩|⟨o,rfl,ho⟩⟩:=hs i d zq0 hq
   .rw[Eo,e];exact ih (i+1) d' zq0 hq'
   .rw[Eo,e];exact⟨o,rfl,ho⟩
 exact key n 0 d zq0 h
theorem De {b:List YB} {c:Aw} (n:YI) (h:B0 b c) (hn:n.1<=1000000):Tot (fun r=>(r.1.1.length=n.1.toNat/\wfB r.1.1)/\B0 b r.2) (Ci c n):=by
 have hloop:Tot (fun o:(List YB)×(List YB)×Int×Int×Unit=>(o.1.length=n.1.toNat/\wfB o.1)/\B0 b (o.2.1,o.2.2.1,o.2.2.2.1,())) (A0 Qg (n.1,([]:List YB),(0:Int),c.1,c.2.1,c.2.2.1,())):=by
  refine A0b (fun i d=>d.1=n.1/\d.2.1.length=i/\wfB d.2.1/\d.2.2.1=(i:Int)/\B0 b (d.2.2.2.1,d.2.2.2.2.1,d.2.2.2.2.2.1,())) _ n.1.toNat ?_ ?_ ⟨rfl,rfl,Hb,rfl,h⟩
  .rintro i ⟨m,l,j,c1,c2,c3,⟨⟩⟩ hi ⟨q1,q2,q3,q4,q5⟩
   dsimp only at q1 q2 q3 q4 q5
   subst q1 q4
   unfold Qg
   simp only[Af,Ah,Aa,Ak]
   rw[Ai zq0,A6]
   refine Ae (Px q5) (fun r hr=>?_)
   refine Dy (Ai zq1) (Ag ⟨_,rfl,rfl,?_,Ww q3 (u8_in _),?_,?_⟩)
   .simp;omega
   .dsimp only;rw[w64 zq0];omega
   .have:=Ab q5 hr.2;exact this
  .rintro⟨m,l,j,c1,c2,c3,⟨⟩⟩ ⟨q1,q2,q3,q4,q5⟩
   dsimp only at q1 q2 q3 q4 q5
   subst q1 q4
   unfold Qg
   simp only[Af,Ah,Aa,Ak]
   rw[Bt zq0,Ao]
   exact Ag ⟨_,rfl,⟨q2,q3⟩,q5⟩
 unfold Ci Ale
 simp only[Af,Ah,Aa,Ak]
 exact Ae hloop (fun o ho=>Ag ho)
theorem Bry (c:YBs) (h:c.1.length<=1048576):Tot (fun r=>B0 c.1 r) (Azc c):=by
 have hloop:Tot (fun o:((List YB)×Int×Unit)=>o.1=c.1) (A0 Acg (c.1,(IntKind.i64.wrap ((127812:Int)+(c.1.length:Int))),(0:Int),())):=by
  refine Aap (fun i d=>d.1=c.1/\d.2.2.1=(i:Int)) _ c.1.length ?_ ⟨rfl,rfl⟩
  rintro i ⟨l,a,j,⟨⟩⟩ hi ⟨q1,q2⟩
  dsimp only at q1 q2
  subst q1 q2
  unfold Acg
  simp only[Af,Ah,Aa,Ak]
  refine Am (fun h1=>?_) (fun h1=>Ag (.inr ⟨_,rfl,rfl⟩))
  have h1:=of_decide_eq_true h1
  refine Am (fun h2=>?_) (fun h2=>Ag (.inr ⟨_,rfl,rfl⟩))
  refine Ae (E9 (P:=fun _=>True) zq0 zq0 (fun _ _=>trivial)) (fun e _=>Ag (.inl ⟨_,rfl,by omega,rfl,?_⟩))
  show IntKind.i64.wrap ((i:Int)+1)=((i+1:Nat):Int)
  rw[w64 zq0];omega
 unfold Azc Awv
 simp only[Af,Ah,Aa,Ak]
 exact Ae hloop (fun o ho=>Ag ⟨h,ho,Int.le_refl _,by dsimp only;omega⟩)
theorem Agu {l:List YB} {i:Nat} {x:YB} (h:wfB l) (hx:0<=x.1/\x.1<=255):wfB (l.set i x):=fun j y hy=>by
 rw[List.getElem?_set]at hy
 split at hy
 .split at hy
  .simp only[Option.some.injEq]at hy;rw[<-hy];exact hx
  .cases hy
 .exact h j y hy
theorem Ab4 {l:List YB} {i j:Nat} (h:wfB l):wfB ((l.take i).drop j):=fun k y hy=>by
 rw[List.getElem?_drop,List.getElem?_take]at hy
 split at hy
 .exact h _ y hy
 .cases hy
theorem Bij (a b c:YI):Tot (fun _=>True) (Bs a b c):=by rw[Cy];exact Ag trivial
theorem Is {b:List YB} {c:Aw} (l:List YI) (h:B0 b c) (hl:0<l.length/\l.length<=256):Tot (fun r=>B0 b r.2) (Bp c (l,())):=by
 unfold Bp Aj0
 simp only[Af,Ah,Aa,Ak]
 refine Ae (Bj _ h zq2) (fun r hr=>?_)
 obtain⟨⟨r1,r2⟩,r3⟩:=hr
 dsimp only at r2
 exact Ae (E9 (P:=fun _=>True) r1 zq0 (fun _ _=>trivial)) (fun x _=>Ag (Ab h r3))
theorem S9 (n:YI) (k:YBs):Tot (fun r=>Cu r<=64) (Gl n k):=by
 obtain⟨r,_,h2,h3⟩:=Auq n k
 exact⟨r,h2,h3⟩
theorem Wx (a0:YI):Tot (fun _=>True) (Kd a0):=by
 unfold Kd Aqn
 simp only[Af,Ah,Aa,Ak,List.length_nil,List.nil_append,Nat.zero_add]
 refine Ae (Bij _ _ _) (fun r1 _=>?_)
 refine Am (fun hb1=>?_) (fun hb1=>?_)
 .exact Ag trivial
 .exact Ag trivial
theorem Bd0 {b:List YB} {a0:Aw} (hc:B0 b a0):Tot (fun r=>B0 b r.2) (Akj a0):=by
 unfold Akj Ax1
 simp only[Af,Ah,Aa,Ak,List.length_nil,List.nil_append,Nat.zero_add]
 refine Ae (Cc _ (-9223372036854775808) (9223372036854775807) hc zq7 zq7) (fun r1 ⟨⟨hr11,hr12⟩,hr1c⟩=>?_)
 exact Ag (Ab hc hr1c)
theorem Bov {b:List YB} {a0:Aw} (hc:B0 b a0):Tot (fun r=>B0 b r.2) (Atj a0):=by
 unfold Atj Are
 simp only[Af,Ah,Aa,Ak,List.length_nil,List.nil_append,Nat.zero_add]
 refine Ae (Ba _ hc A7) (fun r1 hr1c=>?_)
 refine Am (fun hb1=>?_) (fun hb1=>?_)
 .refine Ae (Bj _ (Ab hc hr1c) A7) (fun r2 ⟨⟨hr21,hr22⟩,hr2c⟩=>?_)
  refine Ae (Px (Ab hc hr2c)) (fun r3 ⟨⟨hr31,hr32⟩,hr3c⟩=>?_)
  refine Ae (Bj _ (Ab hc hr3c) A7) (fun r4 ⟨⟨hr41,hr42⟩,hr4c⟩=>?_)
  exact Ag (Ab hc hr4c)
 .refine Ae (Bj _ (Ab hc hr1c) A7) (fun r5 ⟨⟨hr51,hr52⟩,hr5c⟩=>?_)
  refine Ae (Wx _) (fun r6 _=>?_)
  exact Ag (Ab hc hr5c)
theorem Ad8 {b:List YB} {a0:Aw} (hc:B0 b a0):Tot (fun r=>B0 b r.2) (E7 a0):=by
 unfold E7 Ax2
 simp only[Af,Ah,Aa,Ak,List.length_nil,List.nil_append,Nat.zero_add]
 refine Ae (Bov hc) (fun r1 hr1c=>?_)
 refine Ae (Bj _ (Ab hc hr1c) A7) (fun r2 ⟨⟨hr21,hr22⟩,hr2c⟩=>?_)
 refine Am (fun hb2=>?_) (fun hb2=>?_)
 .have hd2:=eq_of_beq hb2
  refine Ae (Bd0 (Ab hc hr2c)) (fun r3 hr3c=>?_)
  exact Ag (Ab hc hr3c)
 .refine Am (fun hb6=>?_) (fun hb6=>?_)
  .have hd6:=eq_of_beq hb6
   refine Ae (Cc _ (-1) (65536) (Ab hc hr2c) zq7 zq7) (fun r4 ⟨⟨hr41,hr42⟩,hr4c⟩=>?_)
   exact Ag (Ab hc hr4c)
  .exact Ag (Ab hc hr2c)
theorem Bow {b:List YB} {a0:Aw} (hc:B0 b a0):Tot (fun r=>r.2.1.1.length<=40/\B0 b r.2.2) (Atp a0):=by
 unfold Atp Aro
 simp only[Af,Ah,Aa,Ak,List.length_nil,List.nil_append,Nat.zero_add]
 refine Ae (Bj _ hc A7) (fun r1 ⟨⟨hr11,hr12⟩,hr1c⟩=>?_)
 refine Am (fun hb1=>?_) (fun hb1=>?_)
 .have hd1:=eq_of_beq hb1
  refine Ae (Bj _ (Ab hc hr1c) A7) (fun r2 ⟨⟨hr21,hr22⟩,hr2c⟩=>?_)
  refine Ae (De _ (Ab hc hr2c) A7) (fun r3 ⟨⟨hr31,hr32⟩,hr3c⟩=>?_)
  exact Ag ⟨Bk,(Ab hc hr3c)⟩
 .refine Am (fun hb6=>?_) (fun hb6=>?_)
  .have hd6:=eq_of_beq hb6
   refine Ae (Bj _ (Ab hc hr1c) A7) (fun r4 ⟨⟨hr41,hr42⟩,hr4c⟩=>?_)
   refine Ae (De _ (Ab hc hr4c) A7) (fun r5 ⟨⟨hr51,hr52⟩,hr5c⟩=>?_)
   exact Ag ⟨Bk,(Ab hc hr5c)⟩
  .refine Ae (Cc _ (0) (40) (Ab hc hr1c) zq7 zq7) (fun r6 ⟨⟨hr61,hr62⟩,hr6c⟩=>?_)
   refine Ae (De _ (Ab hc hr6c) A7) (fun r7 ⟨⟨hr71,hr72⟩,hr7c⟩=>?_)
   exact Ag ⟨Bk,(Ab hc hr7c)⟩
theorem Uj {b:List YB} {a0:Aw} (a1:YBs) (hc:B0 b a0) (hl:a1.1.length<=1000000):Tot (fun r=>(r.1.1.length<=a1.1.length+1/\(wfB a1.1->wfB r.1.1))/\B0 b r.2) (Ks a0 a1):=by
 unfold Ks Arn
 simp only[Af,Ah,Aa,Ak,List.length_nil,List.nil_append,Nat.zero_add]
 refine Dy (Ai A7) ?_
 refine Ae (Bj _ hc A7) (fun r1 ⟨⟨hr11,hr12⟩,hr1c⟩=>?_)
 refine Am (fun hb2=>?_) (fun hb2=>?_)
 .have hd2:=eq_of_beq hb2
  refine Am (fun hb4=>?_) (fun hb4=>?_)
  .have hd4:=of_decide_eq_true hb4
   refine Ae (Bj _ (Ab hc hr1c) A7) (fun r2 ⟨⟨hr21,hr22⟩,hr2c⟩=>?_)
   refine Ae (E9 (P:=fun _=>True) A7 A7 (fun _ _=>trivial)) (fun e3 _=>?_)
   refine Ae (Bj _ (Ab hc hr2c) A7) (fun r4 ⟨⟨hr41,hr42⟩,hr4c⟩=>?_)
   refine Ae (E9 (P:=fun _=>True) A7 A7 (fun _ _=>trivial)) (fun e5 _=>?_)
   exact Ag ⟨⟨Bk,fun hw=>by(first|exact hw|exact Agu hw (u8_in _)|exact Ab4 hw|exact Ww hw (u8_in _))⟩,(Ab hc hr4c)⟩
  .have hd4:=of_decide_eq_false hb4
   exact Ag ⟨⟨Bk,fun hw=>by(first|exact hw|exact Agu hw (u8_in _)|exact Ab4 hw|exact Ww hw (u8_in _))⟩,(Ab hc hr1c)⟩
 .refine Am (fun hb13=>?_) (fun hb13=>?_)
  .have hd13:=eq_of_beq hb13
   refine Am (fun hb15=>?_) (fun hb15=>?_)
   .have hd15:=of_decide_eq_true hb15
    refine Ae (Bj _ (Ab hc hr1c) A7) (fun r7 ⟨⟨hr71,hr72⟩,hr7c⟩=>?_)
    refine Dy (Ai A7) ?_
    refine Dy (Ai A7) ?_
    exact Ag ⟨⟨Bk,fun hw=>by(first|exact hw|exact Agu hw (u8_in _)|exact Ab4 hw|exact Ww hw (u8_in _))⟩,(Ab hc hr7c)⟩
   .have hd15:=of_decide_eq_false hb15
    exact Ag ⟨⟨Bk,fun hw=>by(first|exact hw|exact Agu hw (u8_in _)|exact Ab4 hw|exact Ww hw (u8_in _))⟩,(Ab hc hr1c)⟩
  .refine Am (fun hb23=>?_) (fun hb23=>?_)
   .have hd23:=eq_of_beq hb23
    refine Ae (Px (Ab hc hr1c)) (fun r8 ⟨⟨hr81,hr82⟩,hr8c⟩=>?_)
    refine Dy (Ai A7) ?_
    exact Ag ⟨⟨Bk,fun hw=>by(first|exact hw|exact Agu hw (u8_in _)|exact Ab4 hw|exact Ww hw (u8_in _))⟩,(Ab hc hr8c)⟩
   .exact Ag ⟨⟨Bk,fun hw=>by(first|exact hw|exact Agu hw (u8_in _)|exact Ab4 hw|exact Ww hw (u8_in _))⟩,(Ab hc hr1c)⟩
theorem Cg {b:List YB} {a0:Aw} (a1:Ap) (hc:B0 b a0) (hn:Av a1<=200000) (hw:wfB a1.2.2.2.1):Tot (fun r=>(Av r.1<=Av a1+1/\wfB r.1.2.2.2.1)/\B0 b r.2) (Ce a0 a1):=by
 unfold Ce Aru
 simp only[Af,Ah,Aa,Ak,List.length_nil,List.nil_append,Nat.zero_add]
 rw[A5o _ zq0]
 simp only[Ac]
 refine Ae (Bj _ hc A7) (fun r2 ⟨⟨hr21,hr22⟩,hr2c⟩=>?_)
 refine Am (fun hb3=>?_) (fun hb3=>?_)
 .have hd3:=eq_of_beq hb3
  refine Ae (Cc _ (-1) (7) (Ab hc hr2c) zq7 zq7) (fun r3 ⟨⟨hr31,hr32⟩,hr3c⟩=>?_)
  exact Ag ⟨⟨Bk,At7⟩,(Ab hc hr3c)⟩
 .refine Am (fun hb7=>?_) (fun hb7=>?_)
  .have hd7:=eq_of_beq hb7
   refine Ae (Cc _ (-1) (1) (Ab hc hr2c) zq7 zq7) (fun r4 ⟨⟨hr41,hr42⟩,hr4c⟩=>?_)
   exact Ag ⟨⟨Bk,At7⟩,(Ab hc hr4c)⟩
  .refine Am (fun hb11=>?_) (fun hb11=>?_)
   .have hd11:=eq_of_beq hb11
    refine Ae (Uj _ (Ab hc hr2c) A7) (fun r5 ⟨⟨hr51,hr52⟩,hr5c⟩=>?_)
    exact Ag ⟨⟨Bk,At7⟩,(Ab hc hr5c)⟩
   .refine Am (fun hb15=>?_) (fun hb15=>?_)
    .have hd15:=eq_of_beq hb15
     refine Ae (Uj _ (Ab hc hr2c) A7) (fun r6 ⟨⟨hr61,hr62⟩,hr6c⟩=>?_)
     exact Ag ⟨⟨Bk,At7⟩,(Ab hc hr6c)⟩
    .refine Am (fun hb19=>?_) (fun hb19=>?_)
     .have hd19:=eq_of_beq hb19
      refine Ae (Uj _ (Ab hc hr2c) A7) (fun r7 ⟨⟨hr71,hr72⟩,hr7c⟩=>?_)
      exact Ag ⟨⟨Bk,At7⟩,(Ab hc hr7c)⟩
     .refine Am (fun hb23=>?_) (fun hb23=>?_)
      .have hd23:=eq_of_beq hb23
       refine Ae (Uj _ (Ab hc hr2c) A7) (fun r8 ⟨⟨hr81,hr82⟩,hr8c⟩=>?_)
       exact Ag ⟨⟨Bk,At7⟩,(Ab hc hr8c)⟩
      .refine Am (fun hb27=>?_) (fun hb27=>?_)
       .have hd27:=eq_of_beq hb27
        refine Ae (Uj _ (Ab hc hr2c) A7) (fun r9 ⟨⟨hr91,hr92⟩,hr9c⟩=>?_)
        exact Ag ⟨⟨Bk,At7⟩,(Ab hc hr9c)⟩
       .refine Am (fun hb31=>?_) (fun hb31=>?_)
        .have hd31:=eq_of_beq hb31
         refine Ae (Bj _ (Ab hc hr2c) A7) (fun r10 ⟨⟨hr101,hr102⟩,hr10c⟩=>?_)
         exact Ag ⟨⟨Bk,At7⟩,(Ab hc hr10c)⟩
        .exact Ag ⟨⟨Bk,At7⟩,(Ab hc hr2c)⟩
theorem Bfq {b:List YB} {a0:Aw} (hc:B0 b a0):Tot (fun r=>(Av r.1<=60/\wfB r.1.2.2.2.1)/\B0 b r.2) (Afa a0):=by
 unfold Afa Aej
 simp only[Af,Ah,Aa,Ak,List.length_nil,List.nil_append,Nat.zero_add]
 refine Ae (De _ hc A7) (fun r1 ⟨⟨hr11,hr12⟩,hr1c⟩=>?_)
 refine Ae (De _ (Ab hc hr1c) A7) (fun r2 ⟨⟨hr21,hr22⟩,hr2c⟩=>?_)
 refine Ae (Bj _ (Ab hc hr2c) A7) (fun r3 ⟨⟨hr31,hr32⟩,hr3c⟩=>?_)
 refine Ae (De _ (Ab hc hr3c) A7) (fun r4 ⟨⟨hr41,hr42⟩,hr4c⟩=>?_)
 exact Ag ⟨⟨Bk,by(dsimp only;first|exact Hb|assumption)⟩,(Ab hc hr4c)⟩
theorem Box (w:Dg) (n:YI) (h:w.2.1.length=32):Tot (fun r=>r.1.2.1.length=32) (Z4 w n):=by
 have hn:=A3c w n.1
 simp only[Gv]at hn
 rw[Bia w n zq0]
 cases Kj w n.1 with
 |false=>exact Ag h
 |true=>exact Ag (by show(L5 w n.1).2.1.length=32;omega)
theorem Brz (l:(List YI)×Unit) (hl:l.1.length<=1000):Tot (fun r=>r.2.1.length=32) (Azf l):=by
 unfold Azf Axl
 simp only[Af,Ah,Aa,Ak]
 rw[Auo,Aup]
 simp only[Ac]
 have hloop:Tot (fun o:Int×(List YI)×Int×(List YI)×Unit=>o.2.2.2.1.length=32) (A0 Ack (l.1,(0:Int),(0:Int),([]:List YI),Aja.1,Aja.2.1,())):=by
  refine Aap (fun i d=>d.1=l.1/\d.2.1=(i:Int)/\d.2.2.2.2.2.1.length=32) _ l.1.length ?_ ⟨rfl,rfl,by simp[Aja]⟩
  rintro i ⟨m,k,a1,a2,a3,a4,⟨⟩⟩ hi ⟨g1,g2,g3⟩
  dsimp only at g1 g2 g3
  subst g1 g2
  unfold Ack
  simp only[Af,Ah,Aa,Ak]
  refine Am (fun h=>?_) (fun h=>Ag (.inr ⟨_,rfl,g3⟩))
  have h:=of_decide_eq_true h
  refine Ae (E9 (P:=fun _=>True) zq0 h (fun _ _=>trivial)) (fun e _=>?_)
  refine Ae (Box _ _ g3) (fun r hr=>Ag (.inl ⟨_,rfl,by omega,rfl,?_,hr⟩))
  show IntKind.i64.wrap ((i:Int)+1)=((i+1:Nat):Int)
  rw[w64 zq0];omega
 exact Ae hloop (fun o ho=>Ag ho)
theorem Boy {b:List YB} {a0:Aw} (n:YI) (hc:B0 b a0) (hn:0<=n.1/\n.1<=20):Tot (fun r=>r.1.1.length<=1000/\B0 b r.2) (Ate a0 n):=by
 unfold Ate Aq1
 simp only[Af,Ah,Aa,Ak]
 refine Ae (Cc _ (0) (281474976710000) hc zq7 zq7) (fun r1 ⟨_,h1c⟩=>?_)
 have hw:IntKind.i64.wrap (n.1+1)=n.1+1:=w64 zq0
 refine Ae (Bj _ (Ab hc h1c) zq2) (fun r2 ⟨⟨h1,h2⟩,h2c⟩=>?_)
 dsimp only at h2
 have hloop: ∀q,Tot (fun o:(List YI)×(List YB)×Int×Int×Unit=>o.1.length<=999/\B0 b (o.2.1,o.2.2.1,o.2.2.2.1,())) (A0 Xy (([]:List YI),q,r2.1.1,a0.1,r2.2.2.1,r2.2.2.2.1,())):=by
  intro q
  refine Aap (fun i d=>d.1.length=i/\d.2.2.1=r2.1.1-i/\B0 b (d.2.2.2.1,d.2.2.2.2.1,d.2.2.2.2.2.1,())) _ r2.1.1.toNat ?_ ⟨rfl,by dsimp only;omega,Ab hc h2c⟩
  rintro i ⟨l,q,k,c1,c2,c3,⟨⟩⟩ hi ⟨g1,g2,g3⟩
  dsimp only at g1 g2 g3
  unfold Xy
  simp only[Af,Ah,Aa,Ak]
  refine Am (fun h=>?_) (fun h=>Ag (.inr ⟨_,rfl,by dsimp only;omega,g3⟩))
  have h:=of_decide_eq_true h
  refine Ae (Ba _ g3 zq7) (fun r4 h4c=>?_)
  refine Am (fun _=>?_) (fun _=>?_)
  .refine Ae (Cc _ (1) (3000) (Ab g3 h4c) zq7 zq7) (fun r5 ⟨_,h5c⟩=>?_)
   refine Ae (Bj _ (Ab g3 h5c) zq7) (fun r6 ⟨_,h6c⟩=>?_)
   refine Ae (Cc _ (0) (1000) (Ab g3 h6c) zq7 zq7) (fun r7 ⟨_,h7c⟩=>?_)
   refine Dy (Ai zq1) (Ag (.inl ⟨_,rfl,by omega,by simp;omega,?_,(by have:=Ab g3 h7c;exact this)⟩))
   dsimp only
   rw[w64 zq0];omega
  .refine Ae (Bj _ (Ab g3 h4c) zq7) (fun r6 ⟨_,h6c⟩=>?_)
   refine Ae (Cc _ (0) (1000) (Ab g3 h6c) zq7 zq7) (fun r7 ⟨_,h7c⟩=>?_)
   refine Dy (Ai zq1) (Ag (.inl ⟨_,rfl,by omega,by simp;omega,?_,(by have:=Ab g3 h7c;exact this)⟩))
   dsimp only
   rw[w64 zq0];omega
 refine Ae (hloop _) (fun o ⟨ho,hoc⟩=>?_)
 refine Ae (Ba _ hoc zq7) (fun r11 h11c=>?_)
 refine Am (fun _=>?_) (fun _=>?_)
 .refine Ae (Cc _ (-1) (281474976710656) (Ab hoc h11c) zq7 zq7) (fun r12 ⟨_,h12c⟩=>?_)
  exact Dy (Ai zq1) (Ag ⟨by simp;omega,Ab hoc h12c⟩)
 .exact Ag ⟨by dsimp only;omega,Ab hoc h11c⟩
theorem Br0 (c:YBs):Tot (fun _=>True) (Sm c):=by rw[Agr];exact Ag trivial
theorem Boz (c:A8):Tot (fun _=>True) (Gr c):=by rw[Il];exact Ag trivial
theorem H9 (k:YBs):Tot (fun r=>r.1.length<=32) (Eb k (Dq [114,101,107,101,121],())):=by
 have h:=Aul k.1 Ad4
 have e:Eb k (Dq [114,101,107,101,121],())=some (Ip k.1 Ad4,()):=Azy k.1
 rw[e];exact Ag zq2
theorem Aff (n:YI):Tot (fun r=>r.1.length<=4) (Fp n):=by
 have e:Fp n=some (Vk n.1,()):=Anp n.1
 rw[e];exact Ag (Bdr n.1)
theorem C5 (k:YBs) (r:YI) (sn:YBs) (ep seq kind:YI) (p:YBs) (h1:sn.1.length<=60000000) (h2:p.1.length<=60000000):Tot (fun q=>Av q.1<=sn.1.length+p.1.length+100/\(wfB sn.1->wfB q.1.2.2.2.1)) (B6 k r sn ep seq kind p):=by
 have e:B6 k r sn ep seq kind p=some (Gz k.1 r.1 sn.1 ep.1 seq.1 kind.1 p.1):=Bre k.1 r.1 sn.1 ep.1 seq.1 kind.1 p.1 zq0 zq0
 have hm:=Azw k.1 (Et r.1 sn.1 ep.1 seq.1) p.1
 rw[e]
 refine Ag ?_
 unfold Gz
 cases Nc k.1 r.1 sn.1 ep.1 seq.1 kind.1 p.1 with
 |false=>exact⟨by simp[Av,H2],fun _=>Hb⟩
 |true=>
  refine⟨?_,fun h=>h⟩
  have ht: ∀m,(Ur k.1 m).length<=16:=fun m=>by unfold Ur;rw[List.length_take];omega
  have:=ht (D9 r.1 (kind.1,0,[],sn.1,0,[],[],ep.1,seq.1,mix k.1 (Et r.1 sn.1 ep.1 seq.1) p.1,Qt,()))
  simp only[cond_true,Av,List.length_nil]
  omega
theorem Aut {b:List YB} {a0:Aw} (hc:B0 b a0):Tot (fun r=>r.1.2.1.length=32/\B0 b r.2) (Z5 a0):=by
 unfold Z5 Aq7
 simp only[Af,Ah,Aa,Ak,List.length_nil,List.nil_append,Nat.zero_add]
 refine Ae (Boy _ hc A7) (fun r1 ⟨hr11,hr1c⟩=>?_)
 refine Ae (Brz _ Ku) (fun r2 hr21=>?_)
 exact Ag ⟨by assumption,(Ab hc hr1c)⟩
theorem Br1 {b:List YB} {a0:Aw} (hc:B0 b a0):Tot (fun r=>r.1.2.1.length<=32/\B0 b r.2) (Azh a0):=by
 unfold Azh Axy
 simp only[Af,Ah,Aa,Ak,List.length_nil,List.nil_append,Nat.zero_add]
 refine Ae (Aut hc) (fun r1 ⟨hr11,hr1c⟩=>?_)
 refine Ae (Bj _ (Ab hc hr1c) A7) (fun r2 ⟨⟨hr21,hr22⟩,hr2c⟩=>?_)
 refine Am (fun hb2=>?_) (fun hb2=>?_)
 .have hd2:=eq_of_beq hb2
  refine Ae (Cc _ (-2) (281474976710656) (Ab hc hr2c) zq7 zq7) (fun r3 ⟨⟨hr31,hr32⟩,hr3c⟩=>?_)
  exact Ag ⟨Bk,(Ab hc hr3c)⟩
 .refine Am (fun hb6=>?_) (fun hb6=>?_)
  .have hd6:=eq_of_beq hb6
   refine Ae (Bj _ (Ab hc hr2c) A7) (fun r4 ⟨⟨hr41,hr42⟩,hr4c⟩=>?_)
   refine Ae (Cc _ (-1) (4294967296) (Ab hc hr4c) zq7 zq7) (fun r5 ⟨⟨hr51,hr52⟩,hr5c⟩=>?_)
   refine Ae (E9 (P:=fun _=>True) A7 A7 (fun _ _=>trivial)) (fun e6 _=>?_)
   exact Ag ⟨Bk,(Ab hc hr5c)⟩
  .refine Am (fun hb12=>?_) (fun hb12=>?_)
   .have hd12:=eq_of_beq hb12
    refine Ae (Bj _ (Ab hc hr2c) A7) (fun r8 ⟨⟨hr81,hr82⟩,hr8c⟩=>?_)
    refine Dy (Ai A7) ?_
    refine Dy (Ai A7) ?_
    exact Ag ⟨Bk,(Ab hc hr8c)⟩
   .exact Ag ⟨Bk,(Ab hc hr2c)⟩
theorem Bty {b:List YB} {a0:Aw} (hc:B0 b a0):Tot (fun r=>Cu r.1<=150/\B0 b r.2) (A5a a0):=by
 unfold A5a A4c
 simp only[Af,Ah,Aa,Ak,List.length_nil,List.nil_append,Nat.zero_add]
 refine Ae (Cc _ (0) (4294967295) hc zq7 zq7) (fun r1 ⟨⟨hr11,hr12⟩,hr1c⟩=>?_)
 refine Ae (De _ (Ab hc hr1c) A7) (fun r2 ⟨⟨hr21,hr22⟩,hr2c⟩=>?_)
 refine Ae (S9 _ _) (fun r3 hr31=>?_)
 refine Ae (Cc _ (0) (281474976710656) (Ab hc hr2c) zq7 zq7) (fun r4 ⟨⟨hr41,hr42⟩,hr4c⟩=>?_)
 refine Ae (Ba _ (Ab hc hr4c) A7) (fun r5 hr5c=>?_)
 refine Am (fun hb5=>?_) (fun hb5=>?_)
 .refine Ae (Aut (Ab hc hr5c)) (fun r6 ⟨hr61,hr6c⟩=>?_)
  exact Ag ⟨Bk,(Ab hc hr6c)⟩
 .exact Ag ⟨Bk,(Ab hc hr5c)⟩
theorem Bd1 {b:List YB} {a0:Aw} (hc:B0 b a0):Tot (fun r=>Cu r.1<=250/\B0 b r.2) (Aki a0):=by
 unfold Aki Axz
 simp only[Af,Ah,Aa,Ak,List.length_nil,List.nil_append,Nat.zero_add]
 refine Ae (Bty hc) (fun r1 ⟨hr11,hr1c⟩=>?_)
 refine Ae (Bj _ (Ab hc hr1c) A7) (fun r2 ⟨⟨hr21,hr22⟩,hr2c⟩=>?_)
 refine Am (fun hb2=>?_) (fun hb2=>?_)
 .have hd2:=eq_of_beq hb2
  refine Ae (Cc _ (-1) (4294967296) (Ab hc hr2c) zq7 zq7) (fun r3 ⟨⟨hr31,hr32⟩,hr3c⟩=>?_)
  exact Ag ⟨Bk,(Ab hc hr3c)⟩
 .refine Am (fun hb6=>?_) (fun hb6=>?_)
  .have hd6:=eq_of_beq hb6
   refine Ae (Cc _ (0) (33) (Ab hc hr2c) zq7 zq7) (fun r4 ⟨⟨hr41,hr42⟩,hr4c⟩=>?_)
   refine Ae (De _ (Ab hc hr4c) A7) (fun r5 ⟨⟨hr51,hr52⟩,hr5c⟩=>?_)
   exact Ag ⟨Bk,(Ab hc hr5c)⟩
  .refine Am (fun hb11=>?_) (fun hb11=>?_)
   .have hd11:=eq_of_beq hb11
    refine Ae (Cc _ (-1) (281474976710657) (Ab hc hr2c) zq7 zq7) (fun r6 ⟨⟨hr61,hr62⟩,hr6c⟩=>?_)
    exact Ag ⟨Bk,(Ab hc hr6c)⟩
   .refine Am (fun hb15=>?_) (fun hb15=>?_)
    .have hd15:=eq_of_beq hb15
     refine Ae (Br1 (Ab hc hr2c)) (fun r7 ⟨hr71,hr7c⟩=>?_)
     exact Ag ⟨Bk,(Ab hc hr7c)⟩
    .exact Ag ⟨Bk,(Ab hc hr2c)⟩
theorem A3h (a0:YI) (a1 a2:YBs) (hl:a1.1.length<=1000):Tot (fun r=>A9 r<=100/\(wfB a1.1->wfB r.2.1)) (Ja a0 a1 a2):=by
 unfold Ja Ux
 simp only[Af,Ah,Aa,Ak,List.length_nil,List.nil_append,Nat.zero_add]
 refine Ae (Bij _ _ _) (fun r1 _=>?_)
 refine Am (fun hb1=>?_) (fun hb1=>?_)
 .exact Ag ⟨Bk,fun hw=>by(dsimp only;first|exact Hb|exact hw)⟩
 .refine Am (fun hb3=>?_) (fun hb3=>?_)
  .exact Ag ⟨Bk,fun hw=>by(dsimp only;first|exact Hb|exact hw)⟩
  .have hd3:=bne_eq_false_iff_eq.1 hb3
   refine Am (fun hb6=>?_) (fun hb6=>?_)
   .exact Ag ⟨Bk,fun hw=>by(dsimp only;first|exact Hb|exact hw)⟩
   .have hd6:=bne_eq_false_iff_eq.1 hb6
    refine Dy (Ai A7) ?_
    refine Ae (S9 _ _) (fun r2 hr21=>?_)
    exact Ag ⟨Bk,fun hw=>by(dsimp only;first|exact Hb|exact hw)⟩
theorem A3i {b:List YB} {a0:Aw} (a1:YI) (hc:B0 b a0):Tot (fun r=>(A9 r.1<=400/\wfB r.1.2.1)/\B0 b r.2) (Ac5 a0 a1):=by
 unfold Ac5 Alw
 simp only[Af,Ah,Aa,Ak,List.length_nil,List.nil_append,Nat.zero_add]
 refine Ae (De _ hc A7) (fun r1 ⟨⟨hr11,hr12⟩,hr1c⟩=>?_)
 refine Ae (De _ (Ab hc hr1c) A7) (fun r2 ⟨⟨hr21,hr22⟩,hr2c⟩=>?_)
 refine Ae (A3h _ _ _ A7) (fun r3 ⟨hr31,hr32⟩=>?_)
 refine Ae (Cc _ (0) (281474976710656) (Ab hc hr2c) zq7 zq7) (fun r4 ⟨⟨hr41,hr42⟩,hr4c⟩=>?_)
 refine Ae (Ba _ (Ab hc hr4c) A7) (fun r5 hr5c=>?_)
 refine Am (fun hb5=>?_) (fun hb5=>?_)
 .refine Ae (Aut (Ab hc hr5c)) (fun r6 ⟨hr61,hr6c⟩=>?_)
  refine Ae (Ba _ (Ab hc hr6c) A7) (fun r7 hr7c=>?_)
  refine Am (fun hb8=>?_) (fun hb8=>?_)
  .refine Ae (Cc _ (1) (4294967295) (Ab hc hr7c) zq7 zq7) (fun r8 ⟨⟨hr81,hr82⟩,hr8c⟩=>?_)
   refine Ae (H9 _) (fun r9 hr91=>?_)
   refine Ae (S9 _ _) (fun r10 hr101=>?_)
   refine Ae (Cc _ (-1) (1000005) (Ab hc hr8c) zq7 zq7) (fun r11 ⟨⟨hr111,hr112⟩,hr11c⟩=>?_)
   refine Am (fun hb13=>?_) (fun hb13=>?_)
   .have hd13:=eq_of_beq hb13
    refine Am (fun hb15=>?_) (fun hb15=>?_)
    .have hd15:=of_decide_eq_true hb15
     refine Am (fun hb17=>?_) (fun hb17=>?_)
     .have hd17:=eq_of_beq hb17
      refine Am (fun hb19=>?_) (fun hb19=>?_)
      .have hd19:=of_decide_eq_true hb19
       refine Ae (Ba _ (Ab hc hr11c) A7) (fun r12 hr12c=>?_)
       refine Am (fun hb22=>?_) (fun hb22=>?_)
       .refine Ae (H9 _) (fun r13 hr131=>?_)
        exact Ag ⟨⟨Bk,By⟩,(Ab hc hr12c)⟩
       .exact Ag ⟨⟨Bk,By⟩,(Ab hc hr12c)⟩
      .have hd19:=of_decide_eq_false hb19
       exact Ag ⟨⟨Bk,By⟩,(Ab hc hr11c)⟩
     .exact Ag ⟨⟨Bk,By⟩,(Ab hc hr11c)⟩
    .have hd15:=of_decide_eq_false hb15
     refine Am (fun hb30=>?_) (fun hb30=>?_)
     .have hd30:=eq_of_beq hb30
      refine Am (fun hb32=>?_) (fun hb32=>?_)
      .have hd32:=of_decide_eq_true hb32
       refine Ae (Ba _ (Ab hc hr11c) A7) (fun r14 hr14c=>?_)
       refine Am (fun hb35=>?_) (fun hb35=>?_)
       .refine Ae (H9 _) (fun r15 hr151=>?_)
        exact Ag ⟨⟨Bk,By⟩,(Ab hc hr14c)⟩
       .exact Ag ⟨⟨Bk,By⟩,(Ab hc hr14c)⟩
      .have hd32:=of_decide_eq_false hb32
       exact Ag ⟨⟨Bk,By⟩,(Ab hc hr11c)⟩
     .exact Ag ⟨⟨Bk,By⟩,(Ab hc hr11c)⟩
   .refine Am (fun hb42=>?_) (fun hb42=>?_)
    .have hd42:=eq_of_beq hb42
     refine Am (fun hb44=>?_) (fun hb44=>?_)
     .have hd44:=of_decide_eq_true hb44
      refine Ae (Ba _ (Ab hc hr11c) A7) (fun r16 hr16c=>?_)
      refine Am (fun hb47=>?_) (fun hb47=>?_)
      .refine Ae (H9 _) (fun r17 hr171=>?_)
       exact Ag ⟨⟨Bk,By⟩,(Ab hc hr16c)⟩
      .exact Ag ⟨⟨Bk,By⟩,(Ab hc hr16c)⟩
     .have hd44:=of_decide_eq_false hb44
      exact Ag ⟨⟨Bk,By⟩,(Ab hc hr11c)⟩
    .exact Ag ⟨⟨Bk,By⟩,(Ab hc hr11c)⟩
  .refine Am (fun hb54=>?_) (fun hb54=>?_)
   .have hd54:=eq_of_beq hb54
    refine Am (fun hb56=>?_) (fun hb56=>?_)
    .have hd56:=of_decide_eq_true hb56
     refine Ae (Ba _ (Ab hc hr7c) A7) (fun r18 hr18c=>?_)
     refine Am (fun hb59=>?_) (fun hb59=>?_)
     .refine Ae (H9 _) (fun r19 hr191=>?_)
      exact Ag ⟨⟨Bk,By⟩,(Ab hc hr18c)⟩
     .exact Ag ⟨⟨Bk,By⟩,(Ab hc hr18c)⟩
    .have hd56:=of_decide_eq_false hb56
     exact Ag ⟨⟨Bk,By⟩,(Ab hc hr7c)⟩
   .exact Ag ⟨⟨Bk,By⟩,(Ab hc hr7c)⟩
 .refine Ae (Ba _ (Ab hc hr5c) A7) (fun r20 hr20c=>?_)
  refine Am (fun hb67=>?_) (fun hb67=>?_)
  .refine Ae (Cc _ (1) (4294967295) (Ab hc hr20c) zq7 zq7) (fun r21 ⟨⟨hr211,hr212⟩,hr21c⟩=>?_)
   refine Ae (H9 _) (fun r22 hr221=>?_)
   refine Ae (S9 _ _) (fun r23 hr231=>?_)
   refine Ae (Cc _ (-1) (1000005) (Ab hc hr21c) zq7 zq7) (fun r24 ⟨⟨hr241,hr242⟩,hr24c⟩=>?_)
   refine Am (fun hb72=>?_) (fun hb72=>?_)
   .have hd72:=eq_of_beq hb72
    refine Am (fun hb74=>?_) (fun hb74=>?_)
    .have hd74:=of_decide_eq_true hb74
     refine Am (fun hb76=>?_) (fun hb76=>?_)
     .have hd76:=eq_of_beq hb76
      refine Am (fun hb78=>?_) (fun hb78=>?_)
      .have hd78:=of_decide_eq_true hb78
       refine Ae (Ba _ (Ab hc hr24c) A7) (fun r25 hr25c=>?_)
       refine Am (fun hb81=>?_) (fun hb81=>?_)
       .refine Ae (H9 _) (fun r26 hr261=>?_)
        exact Ag ⟨⟨Bk,By⟩,(Ab hc hr25c)⟩
       .exact Ag ⟨⟨Bk,By⟩,(Ab hc hr25c)⟩
      .have hd78:=of_decide_eq_false hb78
       exact Ag ⟨⟨Bk,By⟩,(Ab hc hr24c)⟩
     .exact Ag ⟨⟨Bk,By⟩,(Ab hc hr24c)⟩
    .have hd74:=of_decide_eq_false hb74
     refine Am (fun hb89=>?_) (fun hb89=>?_)
     .have hd89:=eq_of_beq hb89
      refine Am (fun hb91=>?_) (fun hb91=>?_)
      .have hd91:=of_decide_eq_true hb91
       refine Ae (Ba _ (Ab hc hr24c) A7) (fun r27 hr27c=>?_)
       refine Am (fun hb94=>?_) (fun hb94=>?_)
       .refine Ae (H9 _) (fun r28 hr281=>?_)
        exact Ag ⟨⟨Bk,By⟩,(Ab hc hr27c)⟩
       .exact Ag ⟨⟨Bk,By⟩,(Ab hc hr27c)⟩
      .have hd91:=of_decide_eq_false hb91
       exact Ag ⟨⟨Bk,By⟩,(Ab hc hr24c)⟩
     .exact Ag ⟨⟨Bk,By⟩,(Ab hc hr24c)⟩
   .refine Am (fun hb101=>?_) (fun hb101=>?_)
    .have hd101:=eq_of_beq hb101
     refine Am (fun hb103=>?_) (fun hb103=>?_)
     .have hd103:=of_decide_eq_true hb103
      refine Ae (Ba _ (Ab hc hr24c) A7) (fun r29 hr29c=>?_)
      refine Am (fun hb106=>?_) (fun hb106=>?_)
      .refine Ae (H9 _) (fun r30 hr301=>?_)
       exact Ag ⟨⟨Bk,By⟩,(Ab hc hr29c)⟩
      .exact Ag ⟨⟨Bk,By⟩,(Ab hc hr29c)⟩
     .have hd103:=of_decide_eq_false hb103
      exact Ag ⟨⟨Bk,By⟩,(Ab hc hr24c)⟩
    .exact Ag ⟨⟨Bk,By⟩,(Ab hc hr24c)⟩
  .refine Am (fun hb113=>?_) (fun hb113=>?_)
   .have hd113:=eq_of_beq hb113
    refine Am (fun hb115=>?_) (fun hb115=>?_)
    .have hd115:=of_decide_eq_true hb115
     refine Ae (Ba _ (Ab hc hr20c) A7) (fun r31 hr31c=>?_)
     refine Am (fun hb118=>?_) (fun hb118=>?_)
     .refine Ae (H9 _) (fun r32 hr321=>?_)
      exact Ag ⟨⟨Bk,By⟩,(Ab hc hr31c)⟩
     .exact Ag ⟨⟨Bk,By⟩,(Ab hc hr31c)⟩
    .have hd115:=of_decide_eq_false hb115
     exact Ag ⟨⟨Bk,By⟩,(Ab hc hr20c)⟩
   .exact Ag ⟨⟨Bk,By⟩,(Ab hc hr20c)⟩
theorem Bo0 {b:List YB} {a0:Aw} (hc:B0 b a0):Tot (fun r=>(A9 r.1<=900/\wfB r.1.2.1)/\B0 b r.2) (Ati a0):=by
 unfold Ati Ard
 simp only[Af,Ah,Aa,Ak,List.length_nil,List.nil_append,Nat.zero_add]
 refine Ae (Bj _ hc A7) (fun r1 ⟨⟨hr11,hr12⟩,hr1c⟩=>?_)
 refine Ae (A3i _ (Ab hc hr1c)) (fun r2 ⟨⟨hr21,hr22⟩,hr2c⟩=>?_)
 refine Ae (Bj _ (Ab hc hr2c) A7) (fun r3 ⟨⟨hr31,hr32⟩,hr3c⟩=>?_)
 refine Am (fun hb3=>?_) (fun hb3=>?_)
 .have hd3:=eq_of_beq hb3
  refine Ae (Cc _ (-1) (2) (Ab hc hr3c) zq7 zq7) (fun r4 ⟨⟨hr41,hr42⟩,hr4c⟩=>?_)
  exact Ag ⟨⟨Bk,By⟩,(Ab hc hr4c)⟩
 .refine Am (fun hb7=>?_) (fun hb7=>?_)
  .have hd7:=eq_of_beq hb7
   refine Ae (De _ (Ab hc hr3c) A7) (fun r5 ⟨⟨hr51,hr52⟩,hr5c⟩=>?_)
   exact Ag ⟨⟨Bk,By⟩,(Ab hc hr5c)⟩
  .refine Am (fun hb11=>?_) (fun hb11=>?_)
   .have hd11:=eq_of_beq hb11
    refine Ae (Bd1 (Ab hc hr3c)) (fun r6 ⟨hr61,hr6c⟩=>?_)
    exact Ag ⟨⟨Bk,By⟩,(Ab hc hr6c)⟩
   .refine Am (fun hb15=>?_) (fun hb15=>?_)
    .have hd15:=eq_of_beq hb15
     refine Ae (Bd1 (Ab hc hr3c)) (fun r7 ⟨hr71,hr7c⟩=>?_)
     exact Ag ⟨⟨Bk,By⟩,(Ab hc hr7c)⟩
    .refine Am (fun hb19=>?_) (fun hb19=>?_)
     .have hd19:=eq_of_beq hb19
      exact Ag ⟨⟨Bk,By⟩,(Ab hc hr3c)⟩
     .refine Am (fun hb22=>?_) (fun hb22=>?_)
      .have hd22:=eq_of_beq hb22
       refine Ae (Cc _ (-2) (1000006) (Ab hc hr3c) zq7 zq7) (fun r8 ⟨⟨hr81,hr82⟩,hr8c⟩=>?_)
       exact Ag ⟨⟨Bk,By⟩,(Ab hc hr8c)⟩
      .refine Am (fun hb26=>?_) (fun hb26=>?_)
       .have hd26:=eq_of_beq hb26
        refine Ae (Cc _ (0) (32) (Ab hc hr3c) zq7 zq7) (fun r9 ⟨⟨hr91,hr92⟩,hr9c⟩=>?_)
        refine Ae (De _ (Ab hc hr9c) A7) (fun r10 ⟨⟨hr101,hr102⟩,hr10c⟩=>?_)
        exact Ag ⟨⟨Bk,By⟩,(Ab hc hr10c)⟩
       .exact Ag ⟨⟨Bk,By⟩,(Ab hc hr3c)⟩
theorem Bik {b:List YB} {a0:Aw} (a1:Au) (hc:B0 b a0) (hn:A9 a1<=100000) (hw:wfB a1.2.1):Tot (fun r=>(Av r.1<=A9 a1+200/\wfB r.1.2.2.2.1)/\B0 b r.2) (Z6 a0 a1):=by
 unfold Z6 Ahg
 simp only[Af,Ah,Aa,Ak,List.length_nil,List.nil_append,Nat.zero_add]
 refine Ae (Bow hc) (fun r1 ⟨hr11,hr1c⟩=>?_)
 refine Am (fun hb1=>?_) (fun hb1=>?_)
 .refine Ae (Ba _ (Ab hc hr1c) A7) (fun r2 hr2c=>?_)
  refine Am (fun hb3=>?_) (fun hb3=>?_)
  .refine Am (fun hb4=>?_) (fun hb4=>?_)
   .have hd4:=of_decide_eq_true hb4
    refine Ae (Ba _ (Ab hc hr2c) A7) (fun r3 hr3c=>?_)
    refine Am (fun hb7=>?_) (fun hb7=>?_)
    .refine Ae (S9 _ _) (fun r4 hr41=>?_)
     refine Ae (Cc _ (-1) (5) (Ab hc hr3c) zq7 zq7) (fun r5 ⟨⟨hr51,hr52⟩,hr5c⟩=>?_)
     refine Am (fun hb10=>?_) (fun hb10=>?_)
     .have hd10:=of_decide_eq_true hb10
      refine Ae (Ba _ (Ab hc hr5c) A7) (fun r6 hr6c=>?_)
      refine Am (fun hb13=>?_) (fun hb13=>?_)
      .refine Ae (C5 _ _ _ _ _ _ _ A7 A7) (fun r7 ⟨hr71,hr72⟩=>?_)
       refine Ae (Ba _ (Ab hc hr6c) A7) (fun r8 hr8c=>?_)
       refine Am (fun hb16=>?_) (fun hb16=>?_)
       .refine Ae (Cg _ (Ab hc hr8c) A7 Gt) (fun r9 ⟨⟨hr91,hr92⟩,hr9c⟩=>?_)
        exact Ag ⟨⟨Bk,By⟩,(Ab hc hr9c)⟩
       .exact Ag ⟨⟨Bk,By⟩,(Ab hc hr8c)⟩
      .refine Ae (C5 _ _ _ _ _ _ _ A7 A7) (fun r10 ⟨hr101,hr102⟩=>?_)
       refine Ae (Ba _ (Ab hc hr6c) A7) (fun r11 hr11c=>?_)
       refine Am (fun hb22=>?_) (fun hb22=>?_)
       .refine Ae (Cg _ (Ab hc hr11c) A7 Gt) (fun r12 ⟨⟨hr121,hr122⟩,hr12c⟩=>?_)
        exact Ag ⟨⟨Bk,By⟩,(Ab hc hr12c)⟩
       .exact Ag ⟨⟨Bk,By⟩,(Ab hc hr11c)⟩
     .have hd10:=of_decide_eq_false hb10
      refine Ae (Ba _ (Ab hc hr5c) A7) (fun r13 hr13c=>?_)
      refine Am (fun hb28=>?_) (fun hb28=>?_)
      .refine Ae (C5 _ _ _ _ _ _ _ A7 A7) (fun r14 ⟨hr141,hr142⟩=>?_)
       refine Ae (Ba _ (Ab hc hr13c) A7) (fun r15 hr15c=>?_)
       refine Am (fun hb31=>?_) (fun hb31=>?_)
       .refine Ae (Cg _ (Ab hc hr15c) A7 Gt) (fun r16 ⟨⟨hr161,hr162⟩,hr16c⟩=>?_)
        exact Ag ⟨⟨Bk,By⟩,(Ab hc hr16c)⟩
       .exact Ag ⟨⟨Bk,By⟩,(Ab hc hr15c)⟩
      .refine Ae (C5 _ _ _ _ _ _ _ A7 A7) (fun r17 ⟨hr171,hr172⟩=>?_)
       refine Ae (Ba _ (Ab hc hr13c) A7) (fun r18 hr18c=>?_)
       refine Am (fun hb37=>?_) (fun hb37=>?_)
       .refine Ae (Cg _ (Ab hc hr18c) A7 Gt) (fun r19 ⟨⟨hr191,hr192⟩,hr19c⟩=>?_)
        exact Ag ⟨⟨Bk,By⟩,(Ab hc hr19c)⟩
       .exact Ag ⟨⟨Bk,By⟩,(Ab hc hr18c)⟩
    .refine Ae (Cc _ (-1) (5) (Ab hc hr3c) zq7 zq7) (fun r20 ⟨⟨hr201,hr202⟩,hr20c⟩=>?_)
     refine Am (fun hb42=>?_) (fun hb42=>?_)
     .have hd42:=of_decide_eq_true hb42
      refine Ae (Ba _ (Ab hc hr20c) A7) (fun r21 hr21c=>?_)
      refine Am (fun hb45=>?_) (fun hb45=>?_)
      .refine Ae (C5 _ _ _ _ _ _ _ A7 A7) (fun r22 ⟨hr221,hr222⟩=>?_)
       refine Ae (Ba _ (Ab hc hr21c) A7) (fun r23 hr23c=>?_)
       refine Am (fun hb48=>?_) (fun hb48=>?_)
       .refine Ae (Cg _ (Ab hc hr23c) A7 Gt) (fun r24 ⟨⟨hr241,hr242⟩,hr24c⟩=>?_)
        exact Ag ⟨⟨Bk,By⟩,(Ab hc hr24c)⟩
       .exact Ag ⟨⟨Bk,By⟩,(Ab hc hr23c)⟩
      .refine Ae (C5 _ _ _ _ _ _ _ A7 A7) (fun r25 ⟨hr251,hr252⟩=>?_)
       refine Ae (Ba _ (Ab hc hr21c) A7) (fun r26 hr26c=>?_)
       refine Am (fun hb54=>?_) (fun hb54=>?_)
       .refine Ae (Cg _ (Ab hc hr26c) A7 Gt) (fun r27 ⟨⟨hr271,hr272⟩,hr27c⟩=>?_)
        exact Ag ⟨⟨Bk,By⟩,(Ab hc hr27c)⟩
       .exact Ag ⟨⟨Bk,By⟩,(Ab hc hr26c)⟩
     .have hd42:=of_decide_eq_false hb42
      refine Ae (Ba _ (Ab hc hr20c) A7) (fun r28 hr28c=>?_)
      refine Am (fun hb60=>?_) (fun hb60=>?_)
      .refine Ae (C5 _ _ _ _ _ _ _ A7 A7) (fun r29 ⟨hr291,hr292⟩=>?_)
       refine Ae (Ba _ (Ab hc hr28c) A7) (fun r30 hr30c=>?_)
       refine Am (fun hb63=>?_) (fun hb63=>?_)
       .refine Ae (Cg _ (Ab hc hr30c) A7 Gt) (fun r31 ⟨⟨hr311,hr312⟩,hr31c⟩=>?_)
        exact Ag ⟨⟨Bk,By⟩,(Ab hc hr31c)⟩
       .exact Ag ⟨⟨Bk,By⟩,(Ab hc hr30c)⟩
      .refine Ae (C5 _ _ _ _ _ _ _ A7 A7) (fun r32 ⟨hr321,hr322⟩=>?_)
       refine Ae (Ba _ (Ab hc hr28c) A7) (fun r33 hr33c=>?_)
       refine Am (fun hb69=>?_) (fun hb69=>?_)
       .refine Ae (Cg _ (Ab hc hr33c) A7 Gt) (fun r34 ⟨⟨hr341,hr342⟩,hr34c⟩=>?_)
        exact Ag ⟨⟨Bk,By⟩,(Ab hc hr34c)⟩
       .exact Ag ⟨⟨Bk,By⟩,(Ab hc hr33c)⟩
   .have hd4:=of_decide_eq_false hb4
    refine Ae (Cc _ (-1) (5) (Ab hc hr2c) zq7 zq7) (fun r35 ⟨⟨hr351,hr352⟩,hr35c⟩=>?_)
    refine Am (fun hb75=>?_) (fun hb75=>?_)
    .have hd75:=of_decide_eq_true hb75
     refine Ae (Ba _ (Ab hc hr35c) A7) (fun r36 hr36c=>?_)
     refine Am (fun hb78=>?_) (fun hb78=>?_)
     .refine Ae (C5 _ _ _ _ _ _ _ A7 A7) (fun r37 ⟨hr371,hr372⟩=>?_)
      refine Ae (Ba _ (Ab hc hr36c) A7) (fun r38 hr38c=>?_)
      refine Am (fun hb81=>?_) (fun hb81=>?_)
      .refine Ae (Cg _ (Ab hc hr38c) A7 Gt) (fun r39 ⟨⟨hr391,hr392⟩,hr39c⟩=>?_)
       exact Ag ⟨⟨Bk,By⟩,(Ab hc hr39c)⟩
      .exact Ag ⟨⟨Bk,By⟩,(Ab hc hr38c)⟩
     .refine Ae (C5 _ _ _ _ _ _ _ A7 A7) (fun r40 ⟨hr401,hr402⟩=>?_)
      refine Ae (Ba _ (Ab hc hr36c) A7) (fun r41 hr41c=>?_)
      refine Am (fun hb87=>?_) (fun hb87=>?_)
      .refine Ae (Cg _ (Ab hc hr41c) A7 Gt) (fun r42 ⟨⟨hr421,hr422⟩,hr42c⟩=>?_)
       exact Ag ⟨⟨Bk,By⟩,(Ab hc hr42c)⟩
      .exact Ag ⟨⟨Bk,By⟩,(Ab hc hr41c)⟩
    .have hd75:=of_decide_eq_false hb75
     refine Ae (Ba _ (Ab hc hr35c) A7) (fun r43 hr43c=>?_)
     refine Am (fun hb93=>?_) (fun hb93=>?_)
     .refine Ae (C5 _ _ _ _ _ _ _ A7 A7) (fun r44 ⟨hr441,hr442⟩=>?_)
      refine Ae (Ba _ (Ab hc hr43c) A7) (fun r45 hr45c=>?_)
      refine Am (fun hb96=>?_) (fun hb96=>?_)
      .refine Ae (Cg _ (Ab hc hr45c) A7 Gt) (fun r46 ⟨⟨hr461,hr462⟩,hr46c⟩=>?_)
       exact Ag ⟨⟨Bk,By⟩,(Ab hc hr46c)⟩
      .exact Ag ⟨⟨Bk,By⟩,(Ab hc hr45c)⟩
     .refine Ae (C5 _ _ _ _ _ _ _ A7 A7) (fun r47 ⟨hr471,hr472⟩=>?_)
      refine Ae (Ba _ (Ab hc hr43c) A7) (fun r48 hr48c=>?_)
      refine Am (fun hb102=>?_) (fun hb102=>?_)
      .refine Ae (Cg _ (Ab hc hr48c) A7 Gt) (fun r49 ⟨⟨hr491,hr492⟩,hr49c⟩=>?_)
       exact Ag ⟨⟨Bk,By⟩,(Ab hc hr49c)⟩
      .exact Ag ⟨⟨Bk,By⟩,(Ab hc hr48c)⟩
  .refine Am (fun hb106=>?_) (fun hb106=>?_)
   .have hd106:=of_decide_eq_true hb106
    refine Ae (Ba _ (Ab hc hr2c) A7) (fun r50 hr50c=>?_)
    refine Am (fun hb109=>?_) (fun hb109=>?_)
    .refine Ae (S9 _ _) (fun r51 hr511=>?_)
     refine Ae (Cc _ (-1) (5) (Ab hc hr50c) zq7 zq7) (fun r52 ⟨⟨hr521,hr522⟩,hr52c⟩=>?_)
     refine Am (fun hb112=>?_) (fun hb112=>?_)
     .have hd112:=of_decide_eq_true hb112
      refine Ae (Ba _ (Ab hc hr52c) A7) (fun r53 hr53c=>?_)
      refine Am (fun hb115=>?_) (fun hb115=>?_)
      .refine Ae (C5 _ _ _ _ _ _ _ A7 A7) (fun r54 ⟨hr541,hr542⟩=>?_)
       refine Ae (Ba _ (Ab hc hr53c) A7) (fun r55 hr55c=>?_)
       refine Am (fun hb118=>?_) (fun hb118=>?_)
       .refine Ae (Cg _ (Ab hc hr55c) A7 Gt) (fun r56 ⟨⟨hr561,hr562⟩,hr56c⟩=>?_)
        exact Ag ⟨⟨Bk,By⟩,(Ab hc hr56c)⟩
       .exact Ag ⟨⟨Bk,By⟩,(Ab hc hr55c)⟩
      .refine Ae (C5 _ _ _ _ _ _ _ A7 A7) (fun r57 ⟨hr571,hr572⟩=>?_)
       refine Ae (Ba _ (Ab hc hr53c) A7) (fun r58 hr58c=>?_)
       refine Am (fun hb124=>?_) (fun hb124=>?_)
       .refine Ae (Cg _ (Ab hc hr58c) A7 Gt) (fun r59 ⟨⟨hr591,hr592⟩,hr59c⟩=>?_)
        exact Ag ⟨⟨Bk,By⟩,(Ab hc hr59c)⟩
       .exact Ag ⟨⟨Bk,By⟩,(Ab hc hr58c)⟩
     .have hd112:=of_decide_eq_false hb112
      refine Ae (Ba _ (Ab hc hr52c) A7) (fun r60 hr60c=>?_)
      refine Am (fun hb130=>?_) (fun hb130=>?_)
      .refine Ae (C5 _ _ _ _ _ _ _ A7 A7) (fun r61 ⟨hr611,hr612⟩=>?_)
       refine Ae (Ba _ (Ab hc hr60c) A7) (fun r62 hr62c=>?_)
       refine Am (fun hb133=>?_) (fun hb133=>?_)
       .refine Ae (Cg _ (Ab hc hr62c) A7 Gt) (fun r63 ⟨⟨hr631,hr632⟩,hr63c⟩=>?_)
        exact Ag ⟨⟨Bk,By⟩,(Ab hc hr63c)⟩
       .exact Ag ⟨⟨Bk,By⟩,(Ab hc hr62c)⟩
      .refine Ae (C5 _ _ _ _ _ _ _ A7 A7) (fun r64 ⟨hr641,hr642⟩=>?_)
       refine Ae (Ba _ (Ab hc hr60c) A7) (fun r65 hr65c=>?_)
       refine Am (fun hb139=>?_) (fun hb139=>?_)
       .refine Ae (Cg _ (Ab hc hr65c) A7 Gt) (fun r66 ⟨⟨hr661,hr662⟩,hr66c⟩=>?_)
        exact Ag ⟨⟨Bk,By⟩,(Ab hc hr66c)⟩
       .exact Ag ⟨⟨Bk,By⟩,(Ab hc hr65c)⟩
    .refine Ae (Cc _ (-1) (5) (Ab hc hr50c) zq7 zq7) (fun r67 ⟨⟨hr671,hr672⟩,hr67c⟩=>?_)
     refine Am (fun hb144=>?_) (fun hb144=>?_)
     .have hd144:=of_decide_eq_true hb144
      refine Ae (Ba _ (Ab hc hr67c) A7) (fun r68 hr68c=>?_)
      refine Am (fun hb147=>?_) (fun hb147=>?_)
      .refine Ae (C5 _ _ _ _ _ _ _ A7 A7) (fun r69 ⟨hr691,hr692⟩=>?_)
       refine Ae (Ba _ (Ab hc hr68c) A7) (fun r70 hr70c=>?_)
       refine Am (fun hb150=>?_) (fun hb150=>?_)
       .refine Ae (Cg _ (Ab hc hr70c) A7 Gt) (fun r71 ⟨⟨hr711,hr712⟩,hr71c⟩=>?_)
        exact Ag ⟨⟨Bk,By⟩,(Ab hc hr71c)⟩
       .exact Ag ⟨⟨Bk,By⟩,(Ab hc hr70c)⟩
      .refine Ae (C5 _ _ _ _ _ _ _ A7 A7) (fun r72 ⟨hr721,hr722⟩=>?_)
       refine Ae (Ba _ (Ab hc hr68c) A7) (fun r73 hr73c=>?_)
       refine Am (fun hb156=>?_) (fun hb156=>?_)
       .refine Ae (Cg _ (Ab hc hr73c) A7 Gt) (fun r74 ⟨⟨hr741,hr742⟩,hr74c⟩=>?_)
        exact Ag ⟨⟨Bk,By⟩,(Ab hc hr74c)⟩
       .exact Ag ⟨⟨Bk,By⟩,(Ab hc hr73c)⟩
     .have hd144:=of_decide_eq_false hb144
      refine Ae (Ba _ (Ab hc hr67c) A7) (fun r75 hr75c=>?_)
      refine Am (fun hb162=>?_) (fun hb162=>?_)
      .refine Ae (C5 _ _ _ _ _ _ _ A7 A7) (fun r76 ⟨hr761,hr762⟩=>?_)
       refine Ae (Ba _ (Ab hc hr75c) A7) (fun r77 hr77c=>?_)
       refine Am (fun hb165=>?_) (fun hb165=>?_)
       .refine Ae (Cg _ (Ab hc hr77c) A7 Gt) (fun r78 ⟨⟨hr781,hr782⟩,hr78c⟩=>?_)
        exact Ag ⟨⟨Bk,By⟩,(Ab hc hr78c)⟩
       .exact Ag ⟨⟨Bk,By⟩,(Ab hc hr77c)⟩
      .refine Ae (C5 _ _ _ _ _ _ _ A7 A7) (fun r79 ⟨hr791,hr792⟩=>?_)
       refine Ae (Ba _ (Ab hc hr75c) A7) (fun r80 hr80c=>?_)
       refine Am (fun hb171=>?_) (fun hb171=>?_)
       .refine Ae (Cg _ (Ab hc hr80c) A7 Gt) (fun r81 ⟨⟨hr811,hr812⟩,hr81c⟩=>?_)
        exact Ag ⟨⟨Bk,By⟩,(Ab hc hr81c)⟩
       .exact Ag ⟨⟨Bk,By⟩,(Ab hc hr80c)⟩
   .have hd106:=of_decide_eq_false hb106
    refine Ae (Cc _ (-1) (5) (Ab hc hr2c) zq7 zq7) (fun r82 ⟨⟨hr821,hr822⟩,hr82c⟩=>?_)
    refine Am (fun hb177=>?_) (fun hb177=>?_)
    .have hd177:=of_decide_eq_true hb177
     refine Ae (Ba _ (Ab hc hr82c) A7) (fun r83 hr83c=>?_)
     refine Am (fun hb180=>?_) (fun hb180=>?_)
     .refine Ae (C5 _ _ _ _ _ _ _ A7 A7) (fun r84 ⟨hr841,hr842⟩=>?_)
      refine Ae (Ba _ (Ab hc hr83c) A7) (fun r85 hr85c=>?_)
      refine Am (fun hb183=>?_) (fun hb183=>?_)
      .refine Ae (Cg _ (Ab hc hr85c) A7 Gt) (fun r86 ⟨⟨hr861,hr862⟩,hr86c⟩=>?_)
       exact Ag ⟨⟨Bk,By⟩,(Ab hc hr86c)⟩
      .exact Ag ⟨⟨Bk,By⟩,(Ab hc hr85c)⟩
     .refine Ae (C5 _ _ _ _ _ _ _ A7 A7) (fun r87 ⟨hr871,hr872⟩=>?_)
      refine Ae (Ba _ (Ab hc hr83c) A7) (fun r88 hr88c=>?_)
      refine Am (fun hb189=>?_) (fun hb189=>?_)
      .refine Ae (Cg _ (Ab hc hr88c) A7 Gt) (fun r89 ⟨⟨hr891,hr892⟩,hr89c⟩=>?_)
       exact Ag ⟨⟨Bk,By⟩,(Ab hc hr89c)⟩
      .exact Ag ⟨⟨Bk,By⟩,(Ab hc hr88c)⟩
    .have hd177:=of_decide_eq_false hb177
     refine Ae (Ba _ (Ab hc hr82c) A7) (fun r90 hr90c=>?_)
     refine Am (fun hb195=>?_) (fun hb195=>?_)
     .refine Ae (C5 _ _ _ _ _ _ _ A7 A7) (fun r91 ⟨hr911,hr912⟩=>?_)
      refine Ae (Ba _ (Ab hc hr90c) A7) (fun r92 hr92c=>?_)
      refine Am (fun hb198=>?_) (fun hb198=>?_)
      .refine Ae (Cg _ (Ab hc hr92c) A7 Gt) (fun r93 ⟨⟨hr931,hr932⟩,hr93c⟩=>?_)
       exact Ag ⟨⟨Bk,By⟩,(Ab hc hr93c)⟩
      .exact Ag ⟨⟨Bk,By⟩,(Ab hc hr92c)⟩
     .refine Ae (C5 _ _ _ _ _ _ _ A7 A7) (fun r94 ⟨hr941,hr942⟩=>?_)
      refine Ae (Ba _ (Ab hc hr90c) A7) (fun r95 hr95c=>?_)
      refine Am (fun hb204=>?_) (fun hb204=>?_)
      .refine Ae (Cg _ (Ab hc hr95c) A7 Gt) (fun r96 ⟨⟨hr961,hr962⟩,hr96c⟩=>?_)
       exact Ag ⟨⟨Bk,By⟩,(Ab hc hr96c)⟩
      .exact Ag ⟨⟨Bk,By⟩,(Ab hc hr95c)⟩
 .refine Am (fun hb208=>?_) (fun hb208=>?_)
  .have hd208:=of_decide_eq_true hb208
   refine Ae (Ba _ (Ab hc hr1c) A7) (fun r97 hr97c=>?_)
   refine Am (fun hb211=>?_) (fun hb211=>?_)
   .refine Ae (S9 _ _) (fun r98 hr981=>?_)
    refine Ae (Cc _ (-1) (5) (Ab hc hr97c) zq7 zq7) (fun r99 ⟨⟨hr991,hr992⟩,hr99c⟩=>?_)
    refine Am (fun hb214=>?_) (fun hb214=>?_)
    .have hd214:=of_decide_eq_true hb214
     refine Ae (Ba _ (Ab hc hr99c) A7) (fun r100 hr100c=>?_)
     refine Am (fun hb217=>?_) (fun hb217=>?_)
     .refine Ae (C5 _ _ _ _ _ _ _ A7 A7) (fun r101 ⟨hr1011,hr1012⟩=>?_)
      refine Ae (Ba _ (Ab hc hr100c) A7) (fun r102 hr102c=>?_)
      refine Am (fun hb220=>?_) (fun hb220=>?_)
      .refine Ae (Cg _ (Ab hc hr102c) A7 Gt) (fun r103 ⟨⟨hr1031,hr1032⟩,hr103c⟩=>?_)
       exact Ag ⟨⟨Bk,By⟩,(Ab hc hr103c)⟩
      .exact Ag ⟨⟨Bk,By⟩,(Ab hc hr102c)⟩
     .refine Ae (C5 _ _ _ _ _ _ _ A7 A7) (fun r104 ⟨hr1041,hr1042⟩=>?_)
      refine Ae (Ba _ (Ab hc hr100c) A7) (fun r105 hr105c=>?_)
      refine Am (fun hb226=>?_) (fun hb226=>?_)
      .refine Ae (Cg _ (Ab hc hr105c) A7 Gt) (fun r106 ⟨⟨hr1061,hr1062⟩,hr106c⟩=>?_)
       exact Ag ⟨⟨Bk,By⟩,(Ab hc hr106c)⟩
      .exact Ag ⟨⟨Bk,By⟩,(Ab hc hr105c)⟩
    .have hd214:=of_decide_eq_false hb214
     refine Ae (Ba _ (Ab hc hr99c) A7) (fun r107 hr107c=>?_)
     refine Am (fun hb232=>?_) (fun hb232=>?_)
     .refine Ae (C5 _ _ _ _ _ _ _ A7 A7) (fun r108 ⟨hr1081,hr1082⟩=>?_)
      refine Ae (Ba _ (Ab hc hr107c) A7) (fun r109 hr109c=>?_)
      refine Am (fun hb235=>?_) (fun hb235=>?_)
      .refine Ae (Cg _ (Ab hc hr109c) A7 Gt) (fun r110 ⟨⟨hr1101,hr1102⟩,hr110c⟩=>?_)
       exact Ag ⟨⟨Bk,By⟩,(Ab hc hr110c)⟩
      .exact Ag ⟨⟨Bk,By⟩,(Ab hc hr109c)⟩
     .refine Ae (C5 _ _ _ _ _ _ _ A7 A7) (fun r111 ⟨hr1111,hr1112⟩=>?_)
      refine Ae (Ba _ (Ab hc hr107c) A7) (fun r112 hr112c=>?_)
      refine Am (fun hb241=>?_) (fun hb241=>?_)
      .refine Ae (Cg _ (Ab hc hr112c) A7 Gt) (fun r113 ⟨⟨hr1131,hr1132⟩,hr113c⟩=>?_)
       exact Ag ⟨⟨Bk,By⟩,(Ab hc hr113c)⟩
      .exact Ag ⟨⟨Bk,By⟩,(Ab hc hr112c)⟩
   .refine Ae (Cc _ (-1) (5) (Ab hc hr97c) zq7 zq7) (fun r114 ⟨⟨hr1141,hr1142⟩,hr114c⟩=>?_)
    refine Am (fun hb246=>?_) (fun hb246=>?_)
    .have hd246:=of_decide_eq_true hb246
     refine Ae (Ba _ (Ab hc hr114c) A7) (fun r115 hr115c=>?_)
     refine Am (fun hb249=>?_) (fun hb249=>?_)
     .refine Ae (C5 _ _ _ _ _ _ _ A7 A7) (fun r116 ⟨hr1161,hr1162⟩=>?_)
      refine Ae (Ba _ (Ab hc hr115c) A7) (fun r117 hr117c=>?_)
      refine Am (fun hb252=>?_) (fun hb252=>?_)
      .refine Ae (Cg _ (Ab hc hr117c) A7 Gt) (fun r118 ⟨⟨hr1181,hr1182⟩,hr118c⟩=>?_)
       exact Ag ⟨⟨Bk,By⟩,(Ab hc hr118c)⟩
      .exact Ag ⟨⟨Bk,By⟩,(Ab hc hr117c)⟩
     .refine Ae (C5 _ _ _ _ _ _ _ A7 A7) (fun r119 ⟨hr1191,hr1192⟩=>?_)
      refine Ae (Ba _ (Ab hc hr115c) A7) (fun r120 hr120c=>?_)
      refine Am (fun hb258=>?_) (fun hb258=>?_)
      .refine Ae (Cg _ (Ab hc hr120c) A7 Gt) (fun r121 ⟨⟨hr1211,hr1212⟩,hr121c⟩=>?_)
       exact Ag ⟨⟨Bk,By⟩,(Ab hc hr121c)⟩
      .exact Ag ⟨⟨Bk,By⟩,(Ab hc hr120c)⟩
    .have hd246:=of_decide_eq_false hb246
     refine Ae (Ba _ (Ab hc hr114c) A7) (fun r122 hr122c=>?_)
     refine Am (fun hb264=>?_) (fun hb264=>?_)
     .refine Ae (C5 _ _ _ _ _ _ _ A7 A7) (fun r123 ⟨hr1231,hr1232⟩=>?_)
      refine Ae (Ba _ (Ab hc hr122c) A7) (fun r124 hr124c=>?_)
      refine Am (fun hb267=>?_) (fun hb267=>?_)
      .refine Ae (Cg _ (Ab hc hr124c) A7 Gt) (fun r125 ⟨⟨hr1251,hr1252⟩,hr125c⟩=>?_)
       exact Ag ⟨⟨Bk,By⟩,(Ab hc hr125c)⟩
      .exact Ag ⟨⟨Bk,By⟩,(Ab hc hr124c)⟩
     .refine Ae (C5 _ _ _ _ _ _ _ A7 A7) (fun r126 ⟨hr1261,hr1262⟩=>?_)
      refine Ae (Ba _ (Ab hc hr122c) A7) (fun r127 hr127c=>?_)
      refine Am (fun hb273=>?_) (fun hb273=>?_)
      .refine Ae (Cg _ (Ab hc hr127c) A7 Gt) (fun r128 ⟨⟨hr1281,hr1282⟩,hr128c⟩=>?_)
       exact Ag ⟨⟨Bk,By⟩,(Ab hc hr128c)⟩
      .exact Ag ⟨⟨Bk,By⟩,(Ab hc hr127c)⟩
  .have hd208:=of_decide_eq_false hb208
   refine Ae (Cc _ (-1) (5) (Ab hc hr1c) zq7 zq7) (fun r129 ⟨⟨hr1291,hr1292⟩,hr129c⟩=>?_)
   refine Am (fun hb279=>?_) (fun hb279=>?_)
   .have hd279:=of_decide_eq_true hb279
    refine Ae (Ba _ (Ab hc hr129c) A7) (fun r130 hr130c=>?_)
    refine Am (fun hb282=>?_) (fun hb282=>?_)
    .refine Ae (C5 _ _ _ _ _ _ _ A7 A7) (fun r131 ⟨hr1311,hr1312⟩=>?_)
     refine Ae (Ba _ (Ab hc hr130c) A7) (fun r132 hr132c=>?_)
     refine Am (fun hb285=>?_) (fun hb285=>?_)
     .refine Ae (Cg _ (Ab hc hr132c) A7 Gt) (fun r133 ⟨⟨hr1331,hr1332⟩,hr133c⟩=>?_)
      exact Ag ⟨⟨Bk,By⟩,(Ab hc hr133c)⟩
     .exact Ag ⟨⟨Bk,By⟩,(Ab hc hr132c)⟩
    .refine Ae (C5 _ _ _ _ _ _ _ A7 A7) (fun r134 ⟨hr1341,hr1342⟩=>?_)
     refine Ae (Ba _ (Ab hc hr130c) A7) (fun r135 hr135c=>?_)
     refine Am (fun hb291=>?_) (fun hb291=>?_)
     .refine Ae (Cg _ (Ab hc hr135c) A7 Gt) (fun r136 ⟨⟨hr1361,hr1362⟩,hr136c⟩=>?_)
      exact Ag ⟨⟨Bk,By⟩,(Ab hc hr136c)⟩
     .exact Ag ⟨⟨Bk,By⟩,(Ab hc hr135c)⟩
   .have hd279:=of_decide_eq_false hb279
    refine Ae (Ba _ (Ab hc hr129c) A7) (fun r137 hr137c=>?_)
    refine Am (fun hb297=>?_) (fun hb297=>?_)
    .refine Ae (C5 _ _ _ _ _ _ _ A7 A7) (fun r138 ⟨hr1381,hr1382⟩=>?_)
     refine Ae (Ba _ (Ab hc hr137c) A7) (fun r139 hr139c=>?_)
     refine Am (fun hb300=>?_) (fun hb300=>?_)
     .refine Ae (Cg _ (Ab hc hr139c) A7 Gt) (fun r140 ⟨⟨hr1401,hr1402⟩,hr140c⟩=>?_)
      exact Ag ⟨⟨Bk,By⟩,(Ab hc hr140c)⟩
     .exact Ag ⟨⟨Bk,By⟩,(Ab hc hr139c)⟩
    .refine Ae (C5 _ _ _ _ _ _ _ A7 A7) (fun r141 ⟨hr1411,hr1412⟩=>?_)
     refine Ae (Ba _ (Ab hc hr137c) A7) (fun r142 hr142c=>?_)
     refine Am (fun hb306=>?_) (fun hb306=>?_)
     .refine Ae (Cg _ (Ab hc hr142c) A7 Gt) (fun r143 ⟨⟨hr1431,hr1432⟩,hr143c⟩=>?_)
      exact Ag ⟨⟨Bk,By⟩,(Ab hc hr143c)⟩
     .exact Ag ⟨⟨Bk,By⟩,(Ab hc hr142c)⟩
theorem Ta (a:YBs):I4 a a=some (true,()):=by
 unfold I4 A48
 simp only[Aa,decide_true]
theorem Bfr (a:(List YI)×Unit) (h:a.1.length<=4294967296):Ai2 a a=some (true,()):=by
 have e:=Cs (B:=Lj) a.1.length (fun i=>(a.1,a.1,(i:Int),())) (.inr ())
  (fun i hi=>by
   have hx:=List.getElem?_eq_getElem hi
   unfold Lj
   simp only[Af,Ah,Aa,Dh hi,A6,B8 hx,Ac,bne_self_eq_false,Ao]
   rw[w64 zq0]
   rfl)
  (by unfold Lj;simp only[Af,Aa,Di,Ao])
 unfold Ai2 Aih
 simp only[Af,Ah,Aa,Ey,bne_self_eq_false,Ao]
 rw[show A0 Lj (a.1,a.1,(0:Int),())=_ from e]
 rfl
theorem Bil (a:Dg) (h:Gv a<=4294967296):Ani a a=some (true,()):=by
 unfold Ani Am4
 simp only[Af,Ah,Aa,beq_self_eq_true,A6]
 rw[Bfr _ (by simp only[Gv]at h;dsimp only;omega),Ac]
theorem A3j (a:YEp) (h:Cu a<=4294967296):Agc a a=some (true,()):=by
 unfold Agc Atb
 simp only[Af,Ah,Aa,beq_self_eq_true,A6,Ta,Ac]
 rw[Bil _ (by simp only[Cu,Gv]at*;omega),Ac]
theorem Bfs (a:Au) (h:A9 a<=4294967296):Aaf a a=some (true,()):=by
 unfold Aaf Aii
 simp only[Af,Ah,Aa,beq_self_eq_true,A6,Ta,Ac]
 rw[A3j _ (by simp only[A9,Cu]at*;omega)]
 simp only[Ac,A6]
 rw[A3j _ (by simp only[A9,Cu]at*;omega)]
 simp only[Ac,A6]
def SP (N:Nat) (s:Al):Prop:=A5 s<=N/\wfB s.2.2.1/\wfB (Cj s).2.1
theorem Py (s:Al):A5 s=s.2.1.length+s.2.2.1.length+A9 (Cj s)+Bd (Bm s):=by
 simp only[A5,A9,Cj,Bd,Bm];omega
theorem Uk {N A B C D:Nat} {i:Int} {cn sn:List YB} {c0:Int} {c1:List YB} {c2:Int} {c3:List YB} {c4 c5:Int} {c6:List YI} {c7:Int} {c8:List YB} {c9 c10:Int} {c11:List YI} {c12:Bool} {c13:Int} {c14:List YB} {p0 p1:Int} {p2:List Bb} {t la:Int} {dd:Bool}
  (h1:cn.length<=A) (h2:sn.length<=B) (h3:A9 (c0,c1,c2,c3,c4,c5,c6,c7,c8,c9,c10,c11,c12,c13,c14,())<=C) (h4:Bd (p0,p1,p2,())<=D) (w1:wfB sn) (w2:wfB c1) (h:A+B+C+D<=N):
  SP N (i,cn,sn,c0,c1,c2,c3,c4,c5,c6,c7,c8,c9,c10,c11,c12,c13,c14,p0,p1,p2,t,la,dd,()):=by
 refine⟨?_,w1,w2⟩
 rw[Py]
 have e3:A9 (Cj ((i,cn,sn,c0,c1,c2,c3,c4,c5,c6,c7,c8,c9,c10,c11,c12,c13,c14,p0,p1,p2,t,la,dd,()):Al))<=C:=h3
 have e4:Bd (Bm ((i,cn,sn,c0,c1,c2,c3,c4,c5,c6,c7,c8,c9,c10,c11,c12,c13,c14,p0,p1,p2,t,la,dd,()):Al))<=D:=h4
 dsimp only
 omega
theorem Auu {N:Nat} {s:Al} (h:SP N s):s.2.1.length<=N/\s.2.2.1.length<=N/\A9 (Cj s)<=N/\Bd (Bm s)<=N:=by
 have:=Py s
 have:=h.1
 omega
theorem A0c (a:A8):Tot (fun r=>Bd r<=0) (Sp a):=Ag (by simp[Bd,Br])
theorem Br2 (p:Bn) (n:YI) (a:A8) (d:YBs) (h:Bd p<=100000):Tot (fun r=>Bd r.1<=Bd p+50) (E6 p n a d):=by
 obtain⟨p',b,_,h2,_,h4,_⟩:=Kf p n a d zq0
 rw[h2];exact Ag h4
theorem Anz {b:List YB} {a0:Aw} (hc:B0 b a0):Tot (fun r=>Bd r.1<=250/\B0 b r.2) (Vc a0):=by
 unfold Vc Al0
 simp only[Af,Ah,Aa,Ak]
 refine Ae (Bj _ hc zq7) (fun r1 ⟨_,h1c⟩=>?_)
 refine Ae (Wx _) (fun r2 _=>?_)
 refine Ae (A0c _) (fun r3 h3=>?_)
 refine Ae (Bj _ (Ab hc h1c) zq7) (fun r4 ⟨⟨h4,h4b⟩,h4c⟩=>?_)
 refine Ae (Bj _ (Ab hc h4c) zq7) (fun r5 ⟨⟨h5,h5b⟩,h5c⟩=>?_)
 dsimp only at h4b h5b
 refine Ae (Q:=fun o:(List YB)×Int×Int×Int×Int×(List Bb)×Int×Int×(List Bb)×Unit=>Bd (o.2.2.2.2.2.2.1,o.2.2.2.2.2.2.2.1,o.2.2.2.2.2.2.2.2.1,())<=250/\B0 b (o.1,o.2.1,o.2.2.1,())) ?_ (fun o ho=>Ag ho)
 refine Aap (fun j d=>d.2.1=r5.1.1-(j:Int)/\Bd (d.2.2.2.2.2.2.2.2.1,d.2.2.2.2.2.2.2.2.2.1,d.2.2.2.2.2.2.2.2.2.2.1,())<=50*j/\B0 b (d.2.2.1,d.2.2.2.1,d.2.2.2.2.1,())) _ 5 ?_ ⟨by simp,by have:Bd (r3.1,r3.2.1,r3.2.2.1,())<=0:=h3;dsimp only;omega,Ab hc h5c⟩
 rintro j ⟨m,i,c1,c2,c3,x1,x2,x3,p1,p2,p3,⟨⟩⟩ hj ⟨g1,g2,g3⟩
 dsimp only at g1 g2 g3
 unfold Aeo
 simp only[Af,Ah,Aa,Ak]
 refine Am (fun h=>?_) (fun h=>Ag (.inr ⟨_,rfl,by dsimp only;omega,g3⟩))
 have h:=of_decide_eq_true h
 refine Ae (Bj _ g3 zq7) (fun r7 ⟨_,h7c⟩=>?_)
 refine Ae (Wx _) (fun r8 _=>?_)
 refine Ae (De _ (Ab g3 h7c) zq7) (fun r9 ⟨_,h9c⟩=>?_)
 refine Ae (Br2 _ _ _ _ zq0) (fun r10 h10=>?_)
 refine Ae (Bj _ (Ab g3 h9c) zq7) (fun r11 ⟨_,h11c⟩=>?_)
 refine Ag (.inl ⟨_,rfl,by omega,?_,?_,by have:=Ab g3 h11c;exact this⟩)
 .dsimp only;rw[w64 zq0];omega
 .have:Bd (r10.1.1,r10.1.2.1,r10.1.2.2.1,())<=50*j+50:=Nat.le_trans h10 zq0
  dsimp only;omega
theorem Ajd {p0 p1:Int} {l:List Bb} {i:Nat} {x:Bb} {N:Nat} (h:l.length+Br D0 l<=N) (hx:D0 x<=300):Bd (p0,p1,l.set i x,())<=N+300:=by
 have:=A5m (f:=D0) (l:=l) (i:=i) (x:=x)
 simp only[Bd,List.length_set];omega
theorem Bo1 {b:List YB} {a0:Aw} (hc:B0 b a0):Tot (fun r=>Bd r.1<=600/\B0 b r.2) (Atk a0):=by
 unfold Atk Arf
 simp only[Af,Ah,Aa,Ak]
 refine Ae (Anz hc) (fun r1 ⟨h1,h1c⟩=>?_)
 have h1':r1.1.2.2.1.length+Br D0 r1.1.2.2.1<=250:=h1
 have hat: ∀i:Int,0<=i->i<(r1.1.2.2.1.length:Int)->Tot (fun e=>D0 e<=250) (idx r1.1.2.2.1 i):=fun i h0 hi=>
  E9 h0 hi (fun x hx=>by have:=Tb (f:=D0) hx;omega)
 refine Am (fun _=>Ag ⟨by dsimp only;omega,Ab hc h1c⟩) (fun hb=>?_)
 have hl:(r1.1.2.2.1.length:Int)≠0:=by simpa using hb
 refine Ae (Ba _ (Ab hc h1c) zq7) (fun r2 h2c=>?_)
 refine Am (fun _=>Ag ⟨by dsimp only;omega,Ab hc h2c⟩) (fun _=>?_)
 refine Ae (Bj _ (Ab hc h2c) zq2) (fun r3 ⟨⟨h3,h3b⟩,h3c⟩=>?_)
 dsimp only at h3b
 have h3b:r3.1.1<(r1.1.2.2.1.length:Int):=by omega
 refine Ae (Bj _ (Ab hc h3c) zq7) (fun r4 ⟨_,h4c⟩=>?_)
 refine Am (fun _=>?_) (fun _=>?_)
 .exact Ae (Ad8 (Ab hc h4c)) (fun r5 h5c=>Ag ⟨by simp only[Bd];omega,Ab hc h5c⟩)
 refine Am (fun _=>?_) (fun _=>?_)
 .exact Ae (Ad8 (Ab hc h4c)) (fun r5 h5c=>Ae (hat _ h3 h3b) (fun e he=>Ag ⟨Nat.le_trans (Ajd h1' (by simp only[D0]at*;omega)) zq0,Ab hc h5c⟩))
 refine Am (fun _=>?_) (fun _=>?_)
 .exact Ae (De _ (Ab hc h4c) zq7) (fun r5 ⟨⟨h5,_⟩,h5c⟩=>Ae (hat _ h3 h3b) (fun e he=>Ag ⟨Nat.le_trans (Ajd h1' (by simp only[D0];dsimp only at h5;omega)) zq0,Ab hc h5c⟩))
 refine Am (fun _=>?_) (fun _=>?_)
 .exact Ae (Cc _ (-1) 1000007 (Ab hc h4c) zq7 zq7) (fun r5 ⟨_,h5c⟩=>Ae (hat _ h3 h3b) (fun e he=>Ag ⟨Nat.le_trans (Ajd h1' (by simp only[D0]at*;omega)) zq0,Ab hc h5c⟩))
 refine Am (fun _=>?_) (fun _=>?_)
 .exact Ae (hat _ h3 h3b) (fun e he=>Ag ⟨by simp only[Bd];omega,Ab hc h4c⟩)
 .exact Ag ⟨by dsimp only;omega,Ab hc h4c⟩
theorem Bim (p:YBs) (id:YI) (f:Ap) (h:Av f<=1000):Tot (fun r=>Av r.1<=Av f+100/\(wfB f.2.2.2.1->wfB r.1.2.2.2.1)) (Lx p id f):=by
 unfold Lx Xx
 simp only[Af,Ah,Aa,Ak]
 rw[Jp,Ac]
 refine Am (fun _=>Ag ⟨by simp[Av],fun _=>Hb⟩) (fun _=>?_)
 refine Am (fun _=>Ag ⟨by simp[Av],fun _=>Hb⟩) (fun _=>?_)
 have hp:=Bdy p.1 id.1 f.2.2.1 f.2.2.2.1 f.2.2.2.2.1 f.2.2.2.2.2.1
 rw[show W7 p id (f.2.2.1,()) (f.2.2.2.1,()) (f.2.2.2.2.1,()) (f.2.2.2.2.2.1,())=_ from Bbg p.1 id.1 _ _ _ _,Ac]
 refine Am (fun _=>Ag ⟨by simp[Av],fun _=>Hb⟩) (fun _=>?_)
 rw[A5o _ zq0,Ac]
 simp only[Av]at h
 exact Ag ⟨by simp only[Av,List.length_nil];omega,fun h=>h⟩
theorem Blm (p:YBs) (n:YI) (a:A8) (f:Ap) (h:Av f<=500) (hw:wfB f.2.2.2.1):Tot (SP 1200) (Nt p n a f):=by
 have zero:Tot (SP 1200) (some ((0,[],[],0,[],0,[],0,0,[],0,[],0,0,[],false,0,[],0,0,[],0,0,false,()):Al)):=Ag ⟨by simp[A5,Br],Hb,Hb⟩
 have hcn:f.2.2.1.length<=Av f:=by simp only[Av];omega
 have hsn:f.2.2.2.1.length<=Av f:=by simp only[Av];omega
 unfold Nt Uy
 simp only[Af,Ah,Aa,Ak,List.length_nil,List.nil_append,Nat.zero_add]
 refine Ae (Br0 _) (fun _ _=>Am (fun _=>zero) (fun _=>?_))
 rw[Cy,Ac]
 refine Am (fun _=>zero) (fun _=>?_)
 refine Ae (Boz _) (fun _ _=>Am (fun _=>zero) (fun _=>?_))
 rw[Jp,Ac]
 refine Am (fun _=>zero) (fun _=>Am (fun _=>zero) (fun _=>?_))
 refine Dy (Ai zq0) (Dy (Ai zq0) ?_)
 obtain⟨p,⟨⟩⟩:=p
 rw[Aun,Ac]
 refine Ae (A3h _ _ _ zq2) (fun r6 ⟨h6,h6w⟩=>?_)
 refine Ae (A0c _) (fun r7 h7=>?_)
 exact Ag (Uk (A:=500) (B:=500) (C:=100) (D:=0) zq0 zq0 h6 h7 hw (h6w hw) zq7)
theorem Adf {b:List YB} {a0:Aw} (hc:B0 b a0):Tot (fun r=>SP 4500 r.1/\B0 b r.2) (Q8 a0):=by
 unfold Q8 Al1
 simp only[Af,Ah,Aa,Ak]
 refine Ae (De _ hc zq7) (fun r1 ⟨_,h1c⟩=>?_)
 refine Ae (Bj _ (Ab hc h1c) zq7) (fun r2 ⟨_,h2c⟩=>?_)
 refine Ae (Bfq (Ab hc h2c)) (fun r3 ⟨⟨h3,h3w⟩,h3c⟩=>?_)
 refine Ae (Q:=fun q=>Av q.1<=500/\wfB q.1.2.2.2.1) ?_ (fun r4 ⟨h4,h4w⟩=>?_)
 .refine(Bim _ _ _ zq0).mono (fun q hq=>⟨?_,hq.2 h3w⟩)
  exact Nat.le_trans hq.1 zq0
 refine Ae (De _ (Ab hc h3c) zq7) (fun r5 ⟨_,h5c⟩=>?_)
 refine Ae (Cc _ 0 90 (Ab hc h5c) zq7 zq7) (fun r6 ⟨_,h6c⟩=>?_)
 refine Ae (Bj _ (Ab hc h6c) zq7) (fun r7 ⟨_,h7c⟩=>?_)
 refine Ae (Wx _) (fun r8 _=>?_)
 refine Ae (Blm _ _ _ _ h4 h4w) (fun r9 h9=>?_)
 obtain⟨k1,k2,k3,k4⟩:=Auu h9
 refine Ae (Ba _ (Ab hc h7c) zq7) (fun r10 h10c=>?_)
 refine Am (fun _=>?_) (fun _=>?_)
 .refine Ae (A3i _ (Ab hc h10c)) (fun r11 ⟨⟨h11,h11w⟩,h11c⟩=>?_)
  have h11s:r11.1.2.1.length<=400:=Nat.le_trans (by simp only[A9];omega) h11
  refine Ae (Ba _ (Ab hc h11c) zq7) (fun r12 h12c=>?_)
  refine Am (fun _=>?_) (fun _=>?_)
  .refine Ae (Anz (Ab hc h12c)) (fun r13 ⟨h13,h13c⟩=>?_)
   exact Ag ⟨Uk k1 h11s h11 h13 h11w h11w zq7,Ab hc h13c⟩
  .exact Ag ⟨Uk k1 h11s h11 k4 h11w h11w zq7,Ab hc h12c⟩
 .refine Ae (Ba _ (Ab hc h10c) zq7) (fun r14 h14c=>?_)
  refine Am (fun _=>?_) (fun _=>?_)
  .refine Ae (Anz (Ab hc h14c)) (fun r15 ⟨h15,h15c⟩=>?_)
   exact Ag ⟨Uk k1 k2 k3 h15 h9.2.1 h9.2.2 zq7,Ab hc h15c⟩
  .exact Ag ⟨⟨Nat.le_trans h9.1 zq7,h9.2⟩,Ab hc h14c⟩
theorem Ad9 {N:Nat} (s:Al) (h:SP N s) (hN:N<=100000):Tot (SP N) (Wj s):=by
 have h1:=h.1
 have k:=Auu h
 unfold Wj A4a
 simp only[Af,Ah,Aa,Ak,List.length_nil,List.nil_append,Nat.zero_add]
 rw[Ai5 s zq0,Ac]
 refine Am (fun _=>?_) (fun _=>?_)
 .rw[Ad3 s zq0,Ac];exact Ag h
 refine Dy (Ai zq0) (Dy (Ai zq0) (Ag ?_))
 have:=Py s
 exact Uk (A:=s.2.1.length) (B:=s.2.2.1.length) (C:=0) (D:=0) (Nat.le_refl _) (Nat.le_refl _) (by simp[A9]) (by simp[Bd,Br]) h.2.1 Hb zq0
theorem Bo2 {b:List YB} {a0:Aw} (hc:B0 b a0):Tot (fun r=>SP 20000 r.1/\B0 b r.2) (Atl a0):=by
 unfold Atl Arg
 simp only[Af,Ah,Aa,Ak]
 refine Ae (Adf hc) (fun r1 ⟨h1,h1c⟩=>?_)
 obtain⟨k1,k2,k3,k4⟩:=Auu h1
 refine Ae (Bj _ (Ab hc h1c) zq7) (fun r2 ⟨_,h2c⟩=>?_)
 have same:SP 20000 r1.1:=⟨Nat.le_trans h1.1 zq7,h1.2⟩
 refine Am (fun _=>?_) (fun _=>?_)
 .exact Ae (Cc _ 0 10 (Ab hc h2c) zq7 zq7) (fun r3 ⟨_,h3c⟩=>Ag ⟨Uk k1 k2 k3 k4 h1.2.1 h1.2.2 zq7,Ab hc h3c⟩)
 refine Am (fun _=>?_) (fun _=>?_)
 .exact Ae (De _ (Ab hc h2c) zq7) (fun r3 ⟨⟨h3,_⟩,h3c⟩=>Ag ⟨Uk (A:=11) (Nat.le_of_eq h3) k2 k3 k4 h1.2.1 h1.2.2 zq7,Ab hc h3c⟩)
 refine Am (fun _=>?_) (fun _=>?_)
 .refine Ae (Cc _ 11 12 (Ab hc h2c) zq7 zq7) (fun r3 ⟨h3,h3c⟩=>?_)
  exact Ae (De _ (Ab hc h3c) zq0) (fun r4 ⟨⟨h4,h4w⟩,h4c⟩=>Ag ⟨Uk (B:=12) k1 zq0 k3 k4 h4w h1.2.2 zq7,Ab hc h4c⟩)
 refine Am (fun _=>?_) (fun _=>?_)
 .exact Ae (Bo0 (Ab hc h2c)) (fun r3 ⟨⟨h3,h3w⟩,h3c⟩=>Ag ⟨Uk k1 k2 h3 k4 h1.2.1 h3w zq7,Ab hc h3c⟩)
 refine Am (fun _=>?_) (fun _=>?_)
 .exact Ae (Bo1 (Ab hc h2c)) (fun r3 ⟨h3,h3c⟩=>Ag ⟨Uk k1 k2 k3 h3 h1.2.1 h1.2.2 zq7,Ab hc h3c⟩)
 refine Am (fun _=>?_) (fun _=>?_)
 .exact Ae (Cc _ (-1) 1000001 (Ab hc h2c) zq7 zq7) (fun r3 ⟨_,h3c⟩=>Ag ⟨Uk k1 k2 k3 k4 h1.2.1 h1.2.2 zq7,Ab hc h3c⟩)
 refine Am (fun _=>?_) (fun _=>?_)
 .exact Ae (Cc _ (-1) 1000001 (Ab hc h2c) zq7 zq7) (fun r3 ⟨_,h3c⟩=>Ag ⟨Uk k1 k2 k3 k4 h1.2.1 h1.2.2 zq7,Ab hc h3c⟩)
 refine Am (fun _=>?_) (fun _=>?_)
 .exact Ag ⟨Uk k1 k2 k3 k4 h1.2.1 h1.2.2 zq7,Ab hc h2c⟩
 refine Am (fun _=>?_) (fun _=>?_)
 .exact Ae (Ad9 _ same zq7) (fun r3 h3=>Ag ⟨h3,Ab hc h2c⟩)
 refine Am (fun _=>?_) (fun _=>?_)
 .exact Ae (Ad9 _ same zq7) (fun r3 h3=>Ag ⟨h3,Ab hc h2c⟩)
 .exact Ag ⟨same,Ab hc h2c⟩
theorem Bbh (a:Bn) (h:Bd a<=4294967296):Wa a a=some (true,()):=by
 have hl:a.2.2.1.length<=Bd a:=by simp only[Bd];omega
 have e:=Cs (B:=J5) a.2.2.1.length (fun i=>((i:Int),a.1,a.2.1,a.2.2.1,a.1,a.2.1,a.2.2.1,())) (.inr ())
  (fun i hi=>by
   have hx:=List.getElem?_eq_getElem hi
   unfold J5
   simp only[Af,Ah,Aa,Dh hi,A6,B8 hx,Ac,beq_self_eq_true,Bool.and_true,Bool.not_true,Ao,Ta,bne_self_eq_false]
   rw[w64 zq0]
   rfl)
  (by unfold J5;simp only[Af,Aa,Di,Ao])
 unfold Wa Ae6
 simp only[Af,Ah,Aa,Ey,beq_self_eq_true,Bool.and_true,Bool.not_true,Ao,bne_self_eq_false]
 rw[show A0 J5 ((0:Int),a.1,a.2.1,a.2.2.1,a.1,a.2.1,a.2.2.1,())=_ from e]
 rfl
theorem Bft (s:Al) (h:A5 s<=4294967296):Ai3 s s=some (true,()):=by
 have:=Py s
 unfold Ai3 Aij
 simp only[Af,Ah,Aa,beq_self_eq_true,A6,Ta,Ac]
 rw[show Aaf _ _=_ from Bfs (Cj s) zq0]
 simp only[Ac,A6]
 rw[show Wa _ _=_ from Bbh (Bm s) zq0]
 simp only[Ac,A6]
theorem Bfu (n:Aq):Ai4 n n=some (true,()):=by
 unfold Ai4 Aik
 simp only[Af,Ah,Aa,beq_self_eq_true,A6,Gk,Nb,Ac,Bool.and_true]
theorem Bbi (l:List Aq) (h:l.length<=4294967296):Afc (l,()) (l,())=some (true,()):=by
 have e:=Cs (B:=J6) l.length (fun i=>(l,l,(i:Int),())) (.inr ())
  (fun i hi=>by
   have hx:=List.getElem?_eq_getElem hi
   unfold J6
   simp only[Af,Ah,Aa,Dh hi,A6,B8 hx,Ac,Bfu,Bool.not_true,Ao]
   rw[w64 zq0]
   rfl)
  (by unfold J6;simp only[Af,Aa,Di,Ao])
 unfold Afc Ae7
 simp only[Af,Ah,Aa,Ey,bne_self_eq_false,Ao]
 rw[show A0 J6 (l,l,(0:Int),())=_ from e]
 rfl
theorem Tot.both {α:Type} {P Q:α->Prop} {o:Option α} (h:Tot P o) (k:Tot Q o):Tot (fun a=>P a/\Q a) o:=by
 obtain⟨a,rfl,p⟩:=h
 obtain⟨c,e,q⟩:=k
 cases e
 exact⟨a,rfl,p,q⟩
theorem A0d {i:Int} {cn sn:List YB} {c0:Int} {c1:List YB} {c2:Int} {c3:List YB} {c4 c5:Int} {c6:List YI} {c7:Int} {c8:List YB} {c9 c10:Int} {c11:List YI} {c12:Bool} {c13:Int} {c14:List YB} {p0 p1:Int} {p2:List Bb} {t la:Int}
  (h1:1<=i/\i<=9) (h2:cn.length=12) (h3:sn.length=12) (h4:Cz (c0,c1,c2,c3,c4,c5,c6,c7,c8,c9,c10,c11,c12,c13,c14,())=true) (h5:c0=1) (h6:Cv c1 sn=true) (h7:E8 (p0,p1,p2,())=true) (h8:0<=t/\t<=1000000) (h9:0<=la/\la<=1000000):
  Dk (i,cn,sn,c0,c1,c2,c3,c4,c5,c6,c7,c8,c9,c10,c11,c12,c13,c14,p0,p1,p2,t,la,false,())=true:=by
 unfold Dk
 dsimp only[Cj,Bm,Azq,Aak,Dd]
 rw[h4,h7,Bx.2 h1,Bx.2 h8,Bx.2 h9,h6,h5,h2,h3]
 rfl
theorem Aaq {s:Al} (h:Dk s=true) (hd:Dd s=false):(1<=s.1/\s.1<=9)/\s.2.1.length=12/\s.2.2.1.length=12/\(0<=Azq s/\Azq s<=1000000)/\Cz (Cj s)=true/\s.2.2.2.1=1/\Cv s.2.2.2.2.1 s.2.2.1=true/\E8 (Bm s)=true/\(0<=Aak s/\Aak s<=1000000):=by
 unfold Dk at h
 rw[hd]at h
 simp only[cond_false,Bool.and_eq_true,Bx,beq_iff_eq]at h
 obtain⟨h1,h2,h3,h4,h5,h6,h7,h8,h9⟩:=h
 exact⟨h1,by omega,by omega,h4,h5,h6,h7,h8,h9⟩
theorem Gg {α:Type} {c:Bool} {x y:Option α} {r:α} (h:br c x y=some r):(c=true/\x=some r)\/(c=false/\y=some r):=by
 cases c with
 |true=>exact .inl ⟨rfl,h⟩
 |false=>exact .inr ⟨rfl,h⟩
theorem He {α:Type} {c:Bool} {x:Option α} {r:α} (h:chk c x=some r):x=some r:=by
 cases c with
 |true=>exact h
 |false=>cases h
theorem Apu {α β:Type} {x:Option α} {f:α->Option β} {r:β} (h:ob x f=some r): ∃a,x=some a/\f a=some r:=by
 cases x with
 |none=>cases h
 |some a=>exact⟨a,rfl,h⟩
theorem Br3 {p p':Bn} {n:YI} {a:A8} {d:YBs} {b:Bool} (h:Bd p<=4294967296) (e:Do p n a d=some (p',(b,()))):
  (b=false->p'=p/\(E8 p=true->inR n.1 0 1000000=true->Cq a=true->d.1.length=12->p.2.2.1=[]->a.1=p.1/\a.2.1=p.2.1))/\
  (b=true->Cq a=true/\E8 p'=true/\p'.1=p.1/\p'.2.1=p.2.1/\ ¬(a.1=p.1/\a.2.1=p.2.1)/\ ∃l u,p'.2.2.1=l++[(a.1,a.2.1,d.1,u,())]/\ ∀x∈l,atA a.1 a.2.1 x=false):=by
 have hl0:p.2.2.1.length<=Bd p:=by simp only[Bd];omega
 obtain⟨q',b',o1,_,o3,_,o5⟩:=Kf p n a d h
 have e0:=e
 rw[o1]at e
 simp only[Option.some.injEq,Prod.mk.injEq,and_true]at e
 obtain⟨rfl,rfl⟩:=e
 refine⟨fun hb=>⟨o3 hb,fun k1 k2 k3 k4 k5=>?_⟩,fun hb=>?_⟩
 .subst hb
  unfold Do Adw at e0
  simp only[Af,Ah,Aa,Ak]at e0
  rw[Xa p zq0,Cm,Ik,Hz,Nv p h,Wv p n h]at e0
  simp only[Ac,k1,k2,k3,show((d.1.length:Int)==12)=true by simp[k4],Bool.not_true,Ao]at e0
  rcases Gg e0 with⟨c,_⟩|⟨_,e1⟩
  .simp only[Bool.and_eq_true,beq_iff_eq,and_true]at c
   exact c
  .have ht:S7 p n.1=Ez p n.1:=by unfold S7;rw[k1,k2];rfl
   have hn:(Ez p n.1).2.2.1=[]:=by show p.2.2.1.filter _=[];rw[k5];rfl
   rw[Ajc _ _ (by rw[hn];simp)]at e1
   simp only[Ac,hn,Mb,Im,Option.elim]at e1
   rcases Gg e1 with⟨c,_⟩|⟨_,e2⟩
   .simp at c
   .rcases Gg e2 with⟨c,_⟩|⟨_,e3⟩
    .simp at c
    .obtain⟨x,_,e4⟩:=Apu e3
     have e5:=He e4
     simp at e5
 .obtain⟨hp,hp'⟩:=o5 hb
  subst hb
  unfold Do Adw at e0
  simp only[Af,Ah,Aa,Ak]at e0
  rw[Xa p zq0,Cm,Ik,Hz,Nv p h,Wv p n h]at e0
  simp only[Ac,hp,Bool.not_true,Ao]at e0
  rcases Gg e0 with⟨_,e1⟩|⟨c1,e1⟩
  .simp at e1
  rcases Gg e1 with⟨_,e2⟩|⟨c2,e2⟩
  .simp at e2
  rcases Gg e2 with⟨_,e3⟩|⟨c3,e3⟩
  .simp at e3
  rcases Gg e3 with⟨_,e4⟩|⟨c4,e4⟩
  .simp at e4
  have c1':inR n.1 0 1000000=true:=by simpa using c1
  have ht:S7 p n.1=Ez p n.1:=by unfold S7;rw[hp,c1'];rfl
  have htn:=A3b p n.1
  have htl:(Ez p n.1).2.2.1.length<=Bd (Ez p n.1):=by simp only[Bd];omega
  rw[Ajc _ _ zq0]at e4
  simp only[Ac,Mb]at e4
  rcases Gg e4 with⟨_,e5⟩|⟨c5,e5⟩
  .simp at e5
  rcases Gg e5 with⟨_,e6⟩|⟨c6,e6⟩
  .simp at e6
  obtain⟨x,e7,e8⟩:=Apu e6
  have e9:=He e8
  have hd:d.1.length=12:=by
   have:((d.1.length:Int)==12)=true:=by simpa using c3
   have:=eq_of_beq this;omega
  rw[Cb _ zq0]at e7
  simp only[Option.some.injEq]at e7
  subst e7
  simp only[Option.some.injEq,Prod.mk.injEq,and_true]at e9
  have hf:Im (fun _ x=>atA a.1 a.2.1 x) (Ez p n.1).2.2.1 0=none:=by
   cases hf:Im (fun _ x=>atA a.1 a.2.1 x) (Ez p n.1).2.2.1 0 with
   |none=>rfl
   |some k=>rw[hf]at c5;simp only[Option.elim]at c5;have:=of_decide_eq_false c5;omega
  refine⟨by simpa using c2,hp',by rw[<-e9];rfl,by rw[<-e9];rfl,?_,(Ez p n.1).2.2.1,IntKind.i64.wrap (n.1+6),by rw[<-e9],fun x hx=>?_⟩
  .intro ⟨q1,q2⟩
   rw[q1,q2]at c4
   simp at c4
  .obtain⟨j,hj⟩:=List.getElem?_of_mem hx
   exact Ad1.1 hf j x hj
theorem Bo3 {p p':Bn} {n:YI} {a:A8} {d:YBs} {b:Bool} (h:Bd p<=4294967296) (e:Pr p n a d=some (p',(b,()))):(b=false->p'=p)/\(b=true->E8 p'=true/\p'.1=a.1/\p'.2.1=a.2.1/\p.2.2.1.length>0)/\Bd p'<=Bd p+50:=by
 have hl0:p.2.2.1.length<=Bd p:=by simp only[Bd];omega
 obtain⟨q',b',o1,_,o3,o4,o5⟩:=Az9 p n a d h
 have e0:=e
 rw[o1]at e
 simp only[Option.some.injEq,Prod.mk.injEq,and_true]at e
 obtain⟨rfl,rfl⟩:=e
 refine⟨o3,fun hb=>?_,o4⟩
 obtain⟨hp,hp'⟩:=o5 hb
 subst hb
 unfold Pr Afx at e0
 simp only[Af,Ah,Aa,Ak]at e0
 rw[Xa p zq0,Cm,Nv p h,Ajc p a zq0]at e0
 simp only[Ac,hp,Bool.not_true,Ao]at e0
 rcases Gg e0 with⟨_,e1⟩|⟨c1,e1⟩
 .simp at e1
 rcases Gg e1 with⟨_,e2⟩|⟨c2,e2⟩
 .simp at e2
 obtain⟨x,e3,e4⟩:=Apu e2
 obtain⟨y,_,e5⟩:=Apu e4
 rcases Gg e5 with⟨_,e6⟩|⟨c3,e6⟩
 .simp at e6
 obtain⟨z,_,e7⟩:=Apu e6
 rcases Gg e7 with⟨_,e8⟩|⟨c4,e8⟩
 .simp at e8
 have e9:=He (He (He (He (He (He (He (He e8)))))))
 simp only[Option.some.injEq,Prod.mk.injEq,and_true]at e9
 refine⟨hp',by rw[<-e9],by rw[<-e9],?_⟩
 cases hl:p.2.2.1 with
 |nil=>rw[hl]at e3;simp[idx]at e3
 |cons _ _=>simp
def Bx7 (o:Az):Prop:=Bu (o.2.2.1,o.2.2.2.1,o.2.2.2.2.1,o.2.2.2.2.2.1,o.2.2.2.2.2.2.1,o.2.2.2.2.2.2.2.1,o.2.2.2.2.2.2.2.2.1,o.2.2.2.2.2.2.2.2.2.1,o.2.2.2.2.2.2.2.2.2.2.1,o.2.2.2.2.2.2.2.2.2.2.2.1,o.2.2.2.2.2.2.2.2.2.2.2.2.1,())=true/\Cq (o.1,o.2.1,())=true
def Kk (l:List Az):Prop:=∀o∈l,Bx7 o
theorem Bmr {s:Al} {X:Au} {P:Bn} {n:Int} (h:Dk s=true) (hd:Dd s=false) (hX:Cz X=true) (h1:X.1=1) (h2:X.2.1=(Cj s).2.1) (hP:E8 P=true) (hn:0<=n/\n<=1000000):Dk (Ju s X P n)=true:=by
 obtain⟨q1,q2,q3,q4,q5,q6,q7,q8,q9⟩:=Aaq h hd
 have hd':s.2.2.2.2.2.2.2.2.2.2.2.2.2.2.2.2.2.2.2.2.2.2.2.1=false:=hd
 unfold Ju
 rw[hd']
 exact A0d q1 q2 q3 hX h1 (by rw[h2];exact q7) hP q4 hn
theorem La {a b:List Aq} (h:I7 a) (k:I7 b):I7 (a++b):=fun n hn=>by
 rcases List.mem_append.1 hn with hn|hn
 .exact h n hn
 .exact k n hn
theorem Fj {n:Aq} (h:L6 n=true):I7 [n]:=fun m hm=>by
 rw[List.mem_singleton.1 hm];exact h
theorem A88 {a b:List Az} (h:Kk a) (k:Kk b):Kk (a++b):=fun n hn=>by
 rcases List.mem_append.1 hn with hn|hn
 .exact h n hn
 .exact k n hn
theorem Br4 {s1 r:Al} {X0:Au} {P:Bn} {s:Al} {n:Int} {ep:YI} {p:YBs} {os:List Az} {ns:List Aq} (he:s1=Ju s X0 P n) (hs:Dk s=true) (hd:Dd s=false) (hX:Cz X0=true) (h1:X0.1=1) (h2:X0.2.1=(Cj s).2.1) (hP:E8 P=true) (hc:A9 X0<=50000000)
  (h:V8 s1 ep p=some (r,(os,()),(ns,()))): ∃X,r=Ju s X P n/\Cz X=true/\X.1=1/\X.2.1=(Cj s).2.1/\A9 X<=A9 X0+200/\Kk os/\I7 ns:=by
 subst he
 obtain⟨q1,q2,q3,q4,q5,q6,q7,q8,q9⟩:=Aaq hs hd
 obtain⟨X,zr,r1,_,R1,R2,R3⟩:=A0a X0 ep p zq0
 have nil:Kk []/\I7 []:=⟨fun _ h=>(by cases h),fun _ h=>(by cases h)⟩
 have hck:=Fc X
 unfold V8 V2 at h
 simp only[Af,Ah,Aa,Ak]at h
 rw[show Qq (Cj (Ju s X0 P n)) ep p=some (X,(zr,()))from r1]at h
 simp only[Ac]at h
 rcases Gg h with⟨c0,h⟩|⟨c0,h⟩
 .simp only[Option.some.injEq,Prod.mk.injEq,and_true]at h
  obtain⟨hq,rfl,rfl⟩:=h
  exact⟨X0,hq.symm,hX,h1,h2,by omega,nil⟩
 have hz:zr=0:=by simpa using c0
 obtain⟨_,_,R4,R5,R6⟩:=R3 hz
 have hR5:X.1=1:=by rw[R5,h1]
 have hR6:X.2.1=(Cj s).2.1:=by rw[R6,h2]
 have hcf:=Ir R4
 have hcfe:=Fl hcf.2.2.1
 have hN:0<=X.2.2.1/\X.2.2.1<=4294967295:=hcfe.1
 have hK:X.2.2.2.1.length=32:=hcfe.2.1
 obtain⟨y,g,za,k1,_,K1,K2,K3⟩:=A83 X zq0
 have hyk:=Fc y
 have turn:L6 ((10:Int),(0:Int),(1:Int),([]:List YB),s.2.2.1,X.2.2.1,(0:Int),([]:List YB),X.2.2.2.1,(0:Int),(0:Int),(0:Int),())=true:=by
  rw[Ng]
  simp only[List.length_nil]
  exact⟨by omega,by omega,by omega,hN,by omega,by omega,.inl trivial,.inr q3,by omega,.inr hK,A87⟩
 have ackd:za=0->Cz y=true/\y.1=1/\y.2.1=(Cj s).2.1/\Bu g=true:=fun hza=>by
  obtain⟨e',E1,_,_,_,E5⟩:=K3 hza
  obtain⟨_,c2,c3,c4,c5,c6⟩:=E5 rfl
  exact⟨c2,by rw[E1];exact hR5,by rw[E1];exact hR6,by rw[c5];exact Ab3 c6⟩
 have hAt:Cq ((Bm (Ju s X0 P n)).1,(Bm (Ju s X0 P n)).2.1,())=true:=by
  obtain⟨x1,x2,x3,⟨⟩⟩:=P
  exact(K9.1 hP).1
 have sent:za=0->Kk [((Bm (Ju s X0 P n)).1,(Bm (Ju s X0 P n)).2.1,g.1,g.2.1,g.2.2.1,g.2.2.2.1,g.2.2.2.2.1,g.2.2.2.2.2.1,g.2.2.2.2.2.2.1,g.2.2.2.2.2.2.2.1,g.2.2.2.2.2.2.2.2.1,g.2.2.2.2.2.2.2.2.2.1,g.2.2.2.2.2.2.2.2.2.2.1,())]:=fun hza o ho=>by
  rw[List.mem_singleton.1 ho]
  exact⟨(ackd hza).2.2.2,hAt⟩
 rw[k1]at h
 simp only[Ac]at h
 rw[Iq y g zq0 zq0]at h
 rcases Gg h with⟨_,h⟩|⟨_,h⟩
 .rw[Cb _ (by show s.2.2.1.length<=_;omega),Cb _ zq2]at h
  simp only[Ac]at h
  have h:=He h
  rcases Gg h with⟨_,h⟩|⟨c2,h⟩
  .simp only[Option.some.injEq,Prod.mk.injEq,and_true,List.nil_append]at h
   obtain⟨hq,rfl,rfl⟩:=h
   exact⟨X,hq.symm,R4,hR5,hR6,R2,nil.1,Fj turn⟩
  .have h:=He h
   have hza:za=0:=by simpa using c2
   simp only[Option.some.injEq,Prod.mk.injEq,and_true,List.nil_append]at h
   obtain⟨hq,rfl,rfl⟩:=h
   obtain⟨A1,A2,A3,A4⟩:=ackd hza
   exact⟨y,hq.symm,A1,A2,A3,by omega,sent hza,La (Fj turn) (Fj (Aus A1))⟩
 .rcases Gg h with⟨_,h⟩|⟨c2,h⟩
  .simp only[Option.some.injEq,Prod.mk.injEq,and_true]at h
   obtain⟨hq,rfl,rfl⟩:=h
   exact⟨X,hq.symm,R4,hR5,hR6,R2,nil⟩
  .simp only[Ac]at h
   have h:=He h
   have hza:za=0:=by simpa using c2
   simp only[Option.some.injEq,Prod.mk.injEq,and_true,List.nil_append]at h
   obtain⟨hq,rfl,rfl⟩:=h
   obtain⟨A1,A2,A3,A4⟩:=ackd hza
   exact⟨y,hq.symm,A1,A2,A3,by omega,sent hza,Fj (Aus A1)⟩
end
end Go.Proofs.YthccfdmiejmbaaaGreat

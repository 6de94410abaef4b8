/-
  That the program and the reference answer alike, in plain terms, and that the laws answer true.
-/
import Derived.Test.YtnbbbaplphcebaaGreatG2
namespace Go.Proofs.YtnbbbaplphcebaaGreat
open Go.RowKit
set_option linter.unusedVariables false
set_option linter.unusedSimpArgs false
set_option maxRecDepth 100000
set_option maxHeartbeats 16000000
noncomputable section
def Tot {α:Type} (P:α->Prop) (o:Option α):Prop:=∃a,o=some a/\P a
theorem Ad {α β:Type} {x:Option α} {f:α->Option β} {Q:α->Prop} {P:β->Prop} (h:Tot Q x) (k: ∀a,Q a->Tot P (f a)):Tot P (ob x f):=by
 obtain⟨a,rfl,ha⟩:=h
 exact k a ha
theorem An {β:Type} {c:Bool} {x y:Option β} {P:β->Prop} (h1:c=true->Tot P x) (h2:c=false->Tot P y):Tot P (br c x y):=by
 cases c with
 |true=>exact h1 rfl
 |false=>exact h2 rfl
theorem Ej {β:Type} {c:Bool} {x:Option β} {P:β->Prop} (h:c=true) (k:Tot P x):Tot P (chk c x):=by
 rw[h];exact k
theorem Ah {β:Type} {a:β} {P:β->Prop} (h:P a):Tot P (some a):=⟨a,rfl,h⟩
theorem Tot.mono {α:Type} {P Q:α->Prop} {o:Option α} (h:Tot P o) (k: ∀a,P a->Q a):Tot Q o:=by
 obtain⟨a,e,p⟩:=h
 exact⟨a,e,k a p⟩
def Bv (b:List YB) (c:Aw):Prop:=b.length<=1048576/\c.1=b/\0<=c.2.1/\c.2.1<=b.length
theorem Ab {b:List YB} {c r:Aw} (h0:Bv b c) (h:Bv b r):Bv b (c.1,r.2.1,r.2.2.1,()):=⟨h.1,h0.2.1,h.2.2⟩
theorem Br8 (x:BitVec IntKind.i64.bits):(x &&& BitVec.ofInt IntKind.i64.bits 255).toNat<=255:=by
 rw[BitVec.toNat_and]
 have e:(BitVec.ofInt IntKind.i64.bits 255).toNat=255:=by decide
 rw[e]
 exact Nat.and_le_right
theorem E7 {α:Type} {l:List α} {i:Int} {P:α->Prop} (h0:0<=i) (h1:i<(l.length:Int)) (hm: ∀x,x∈l->P x):Tot P (idx l i):=by
 obtain⟨n,rfl⟩: ∃n:Nat,i=n:=⟨i.toNat,by omega⟩
 have hlt:n<l.length:=by omega
 exact⟨l[n],B9 (List.getElem?_eq_getElem hlt),hm _ (List.getElem_mem hlt)⟩
theorem Pf {b:List YB} {c:Aw} (h:Bv b c):Tot (fun r=>(0<=r.1.1/\r.1.1<=255)/\Bv b r.2) (Ke c):=by
 obtain⟨h1,h2,h3,h4⟩:=h
 have key: ∀(x:BitVec IntKind.i64.bits),0<=IntKind.i64.wrap ((x &&& BitVec.ofInt IntKind.i64.bits 255).toNat:Nat)/\IntKind.i64.wrap ((x &&& BitVec.ofInt IntKind.i64.bits 255).toNat:Nat)<=255:=fun x=>by
  have:=Br8 x
  rw[w64 zq0];omega
 unfold Ke Am6
 simp only[Af,Ag,Aa,Aj]
 refine An (fun hb=>?_) (fun hb=>?_)
 .have hlt:c.2.1<(c.1.length:Int):=of_decide_eq_true hb
  rw[h2]at hlt
  refine Ad (E7 (P:=fun _=>True) h3 (by rw[h2];exact hlt) (fun _ _=>trivial)) (fun e _=>?_)
  refine Ah ⟨key _,h1,h2,?_,?_⟩
  .dsimp only;rw[w64 zq0];omega
  .dsimp only;rw[w64 zq0];omega
 .exact Ah ⟨key _,h1,h2,h3,h4⟩
theorem Bf {b:List YB} {c:Aw} (n:YI) (h:Bv b c) (hn:n.1<=16777216):Tot (fun r=>(0<=r.1.1/\(r.1.1<n.1\/r.1.1=0))/\Bv b r.2) (Bi c n):=by
 unfold Bi Ai6
 simp only[Af,Ag,Aa,Aj]
 refine An (fun hb=>Ah ⟨⟨Int.le_refl _,.inr rfl⟩,h⟩) (fun hb=>?_)
 have h0: ¬n.1<=0:=of_decide_eq_false hb
 refine An (fun hb2=>?_) (fun hb2=>?_)
 .refine Ad (Pf h) (fun r hr=>?_)
  refine Ej (Al zq0) (Ej (Al zq0) (Ah ⟨⟨Int.emod_nonneg _ zq0,.inl (Int.emod_lt_of_pos _ zq0)⟩,Ab h hr.2⟩))
 .refine Ad (Pf h) (fun r1 hr1=>?_)
  refine Ad (Pf (Ab h hr1.2)) (fun r2 hr2=>?_)
  refine Ad (Pf (Ab h hr2.2)) (fun r3 hr3=>?_)
  have e:IntKind.i64.wrap (IntKind.i64.wrap (IntKind.i64.wrap (r1.1.1*65536)+IntKind.i64.wrap (r2.1.1*256))+r3.1.1)=r1.1.1*65536+r2.1.1*256+r3.1.1:=by
   rw[w64 (n:=r1.1.1*65536) zq0,w64 (n:=r2.1.1*256) zq0,w64 (n:=r1.1.1*65536+r2.1.1*256) zq0,w64 zq0]
  rw[e]
  refine Ej (Al zq0) (Ej (Al zq0) (Ah ⟨⟨Int.emod_nonneg _ zq0,.inl (Int.emod_lt_of_pos _ zq0)⟩,Ab h hr3.2⟩))
theorem Az {b:List YB} {c:Aw} (n:YI) (h:Bv b c) (hn:n.1<=16777216):Tot (fun r=>Bv b r.2) (Av c n):=by
 unfold Av Anu
 simp only[Af,Ag,Aa,Aj]
 exact Ad (Bf n h hn) (fun r hr=>Ah (Ab h hr.2))
theorem C8 {b:List YB} {c:Aw} (l:List YI) (lo hi:Int) (h:Bv b c) (hl:0<l.length/\l.length<=256) (hm: ∀x∈l,lo<=x.1/\x.1<=hi):Tot (fun r=>(lo<=r.1.1/\r.1.1<=hi)/\Bv b r.2) (Cb c (l,())):=by
 unfold Cb Ahv
 simp only[Af,Ag,Aa,Aj]
 refine Ad (Bf _ h zq2) (fun r hr=>?_)
 obtain⟨⟨r1,r2⟩,r3⟩:=hr
 dsimp only at r2
 exact Ad (E7 r1 zq0 hm) (fun x hx=>Ah ⟨hx,Ab h r3⟩)
theorem Vy {l:List YB} {x:YB} (h:wfB l) (hx:0<=x.1/\x.1<=255):wfB (l++[x]):=fun i y hy=>by
 rcases Nat.lt_or_ge i l.length with hlt|hge
 .rw[List.getElem?_append_left hlt]at hy;exact h i y hy
 .rw[List.getElem?_append_right hge]at hy
  cases hi:i-l.length with
  |zero=>rw[hi]at hy;simp only[List.getElem?_cons_zero,Option.some.injEq]at hy;rw[<-hy];exact hx
  |succ k=>rw[hi]at hy;simp at hy
theorem X7 {D O:Type} {B:D->Option (D⊕O)} (Q:Nat->D->Prop) (R:O->Prop) (n:Nat) (hs: ∀i d,i<n->Q i d->Tot (fun s=>∃d',s= .inl d'/\Q (i+1) d') (B d)) (he: ∀d,Q n d->Tot (fun s=>∃o,s= .inr o/\R o) (B d)) {d:D} (h:Q 0 d):Tot R (Ay B d):=by
 have key: ∀k i d,i+k=n->Q i d->Tot R (Ay B d):=by
  intro k
  induction k with
  |zero=>
   intro i d hi hq
   have e:i=n:=by omega
   subst e
   obtain⟨s,e,o,rfl,ho⟩:=he d hq
   rw[Eg,e]
   exact⟨o,rfl,ho⟩
  |succ k ih=>
   intro i d hi hq
   obtain⟨s,e,d',rfl,hq'⟩:=hs i d zq0 hq
   rw[Eg,e]
   exact ih (i+1) d' zq0 hq'
 exact key n 0 d zq0 h
theorem Tn {D O:Type} {B:D->Option (D⊕O)} (Q:Nat->D->Prop) (R:O->Prop) (n:Nat) (hs: ∀i d,i<=n->Q i d->Tot (fun s=>(∃d',s= .inl d'/\i<n/\Q (i+1) d')\/ ∃o,s= .inr o/\R o) (B d)) {d:D} (h:Q 0 d):Tot R (Ay B d):=by
 have key: ∀k i d,i+k=n->Q i d->Tot R (Ay B d):=by
  intro k
  induction k with
  |zero=>
   intro i d hi hq
   obtain⟨s,e,⟨d',rfl,hlt,hq'⟩|⟨o,rfl,ho⟩⟩:=hs i d zq0 hq
   .omega
   .rw[Eg,e];exact⟨o,rfl,ho⟩
  |succ k ih=>
   intro i d hi hq
   obtain⟨s,e,⟨d',rfl,hlt,hq'⟩|⟨o,rfl,ho⟩⟩:=hs i d zq0 hq
   .rw[Eg,e];exact ih (i+1) d' zq0 hq'
   .rw[Eg,e];exact⟨o,rfl,ho⟩
 exact key n 0 d zq0 h
theorem C0 {b:List YB} {c:Aw} (n:YI) (h:Bv b c) (hn:n.1<=1000000):Tot (fun r=>(r.1.1.length=n.1.toNat/\wfB r.1.1)/\Bv b r.2) (Df c n):=by
 have hloop:Tot (fun o:(List YB)×(List YB)×Int×Int×Unit=>(o.1.length=n.1.toNat/\wfB o.1)/\Bv b (o.2.1,o.2.2.1,o.2.2.2.1,())) (Ay Pq (n.1,([]:List YB),(0:Int),c.1,c.2.1,c.2.2.1,())):=by
  refine X7 (fun i d=>d.1=n.1/\d.2.1.length=i/\wfB d.2.1/\d.2.2.1=(i:Int)/\Bv b (d.2.2.2.1,d.2.2.2.2.1,d.2.2.2.2.2.1,())) _ n.1.toNat ?_ ?_ ⟨rfl,rfl,Gw,rfl,h⟩
  .rintro i ⟨m,l,j,c1,c2,c3,⟨⟩⟩ hi ⟨q1,q2,q3,q4,q5⟩
   dsimp only at q1 q2 q3 q4 q5
   subst q1 q4
   unfold Pq
   simp only[Af,Ag,Aa,Aj]
   rw[Al zq0,A9]
   refine Ad (Pf q5) (fun r hr=>?_)
   refine Ej (Al zq1) (Ah ⟨_,rfl,rfl,?_,Vy q3 (u8_in _),?_,?_⟩)
   .simp;omega
   .dsimp only;rw[w64 zq0];omega
   .have:=Ab q5 hr.2;exact this
  .rintro⟨m,l,j,c1,c2,c3,⟨⟩⟩ ⟨q1,q2,q3,q4,q5⟩
   dsimp only at q1 q2 q3 q4 q5
   subst q1 q4
   unfold Pq
   simp only[Af,Ag,Aa,Aj]
   rw[Bp zq0,Ao]
   exact Ah ⟨_,rfl,⟨q2,q3⟩,q5⟩
 unfold Df Ai7
 simp only[Af,Ag,Aa,Aj]
 exact Ad hloop (fun o ho=>Ah ho)
theorem Bmt (c:YBs) (h:c.1.length<=1048576):Tot (fun r=>Bv c.1 r) (Auq c):=by
 have hloop:Tot (fun o:((List YB)×Int×Unit)=>o.1=c.1) (Ay Aaw (c.1,(IntKind.i64.wrap ((127812:Int)+(c.1.length:Int))),(0:Int),())):=by
  refine Tn (fun i d=>d.1=c.1/\d.2.2.1=(i:Int)) _ c.1.length ?_ ⟨rfl,rfl⟩
  rintro i ⟨l,a,j,⟨⟩⟩ hi ⟨q1,q2⟩
  dsimp only at q1 q2
  subst q1 q2
  unfold Aaw
  simp only[Af,Ag,Aa,Aj]
  refine An (fun h1=>?_) (fun h1=>Ah (.inr ⟨_,rfl,rfl⟩))
  have h1:=of_decide_eq_true h1
  refine An (fun h2=>?_) (fun h2=>Ah (.inr ⟨_,rfl,rfl⟩))
  refine Ad (E7 (P:=fun _=>True) zq0 zq0 (fun _ _=>trivial)) (fun e _=>Ah (.inl ⟨_,rfl,by omega,rfl,?_⟩))
  show IntKind.i64.wrap ((i:Int)+1)=((i+1:Nat):Int)
  rw[w64 zq0];omega
 unfold Auq Asr
 simp only[Af,Ag,Aa,Aj]
 exact Ad hloop (fun o ho=>Ah ⟨h,ho,Int.le_refl _,by dsimp only;omega⟩)
theorem Aes {l:List YB} {i:Nat} {x:YB} (h:wfB l) (hx:0<=x.1/\x.1<=255):wfB (l.set i x):=fun j y hy=>by
 rw[List.getElem?_set]at hy
 split at hy
 .split at hy
  .simp only[Option.some.injEq]at hy;rw[<-hy];exact hx
  .cases hy
 .exact h j y hy
theorem Aal {l:List YB} {i j:Nat} (h:wfB l):wfB ((l.take i).drop j):=fun k y hy=>by
 rw[List.getElem?_drop,List.getElem?_take]at hy
 split at hy
 .exact h _ y hy
 .cases hy
theorem Bdc (a b c:YI):Tot (fun _=>True) (Bt a b c):=by rw[Cq];exact Ah trivial
theorem Jk {b:List YB} {c:Aw} (l:List YI) (h:Bv b c) (hl:0<l.length/\l.length<=256):Tot (fun r=>Bv b r.2) (Cb c (l,())):=by
 unfold Cb Ahv
 simp only[Af,Ag,Aa,Aj]
 refine Ad (Bf _ h zq2) (fun r hr=>?_)
 obtain⟨⟨r1,r2⟩,r3⟩:=hr
 dsimp only at r2
 exact Ad (E7 (P:=fun _=>True) r1 zq0 (fun _ _=>trivial)) (fun x _=>Ah (Ab h r3))
theorem Wg (n:YI) (k:YBs):Tot (fun r=>C7 r<=64) (Fm n k):=by
 obtain⟨r,_,h2,h3⟩:=Aqt n k
 exact⟨r,h2,h3⟩
theorem Pg (a0:YI):Tot (fun _=>True) (Ic a0):=by
 unfold Ic Ae1
 simp only[Af,Ag,Aa,Aj,List.length_nil,List.nil_append,Nat.zero_add]
 refine Ad (Bdc _ _ _) (fun r1 _=>?_)
 refine An (fun hb1=>?_) (fun hb1=>?_)
 .exact Ah trivial
 .exact Ah trivial
theorem Bmu {b:List YB} {a0:Aw} (hc:Bv b a0):Tot (fun r=>Bv b r.2) (Auv a0):=by
 unfold Auv Atp
 simp only[Af,Ag,Aa,Aj,List.length_nil,List.nil_append,Nat.zero_add]
 refine Ad (C8 _ (-9223372036854775808) (9223372036854775807) hc zq7 zq7) (fun r1 ⟨⟨hr11,hr12⟩,hr1c⟩=>?_)
 exact Ah (Ab hc hr1c)
theorem Bjy {b:List YB} {a0:Aw} (hc:Bv b a0):Tot (fun r=>Bv b r.2) (Apx a0):=by
 unfold Apx Aoe
 simp only[Af,Ag,Aa,Aj,List.length_nil,List.nil_append,Nat.zero_add]
 refine Ad (Az _ hc A0) (fun r1 hr1c=>?_)
 refine An (fun hb1=>?_) (fun hb1=>?_)
 .refine Ad (Bf _ (Ab hc hr1c) A0) (fun r2 ⟨⟨hr21,hr22⟩,hr2c⟩=>?_)
  refine Ad (Pf (Ab hc hr2c)) (fun r3 ⟨⟨hr31,hr32⟩,hr3c⟩=>?_)
  refine Ad (Bf _ (Ab hc hr3c) A0) (fun r4 ⟨⟨hr41,hr42⟩,hr4c⟩=>?_)
  exact Ah (Ab hc hr4c)
 .refine Ad (Bf _ (Ab hc hr1c) A0) (fun r5 ⟨⟨hr51,hr52⟩,hr5c⟩=>?_)
  refine Ad (Pg _) (fun r6 _=>?_)
  exact Ah (Ab hc hr5c)
theorem Bmv {b:List YB} {a0:Aw} (hc:Bv b a0):Tot (fun r=>Bv b r.2) (Gl a0):=by
 unfold Gl Atq
 simp only[Af,Ag,Aa,Aj,List.length_nil,List.nil_append,Nat.zero_add]
 refine Ad (Bjy hc) (fun r1 hr1c=>?_)
 refine Ad (Bf _ (Ab hc hr1c) A0) (fun r2 ⟨⟨hr21,hr22⟩,hr2c⟩=>?_)
 refine An (fun hb2=>?_) (fun hb2=>?_)
 .have hd2:=eq_of_beq hb2
  refine Ad (Bmu (Ab hc hr2c)) (fun r3 hr3c=>?_)
  exact Ah (Ab hc hr3c)
 .refine An (fun hb6=>?_) (fun hb6=>?_)
  .have hd6:=eq_of_beq hb6
   refine Ad (C8 _ (-1) (65536) (Ab hc hr2c) zq7 zq7) (fun r4 ⟨⟨hr41,hr42⟩,hr4c⟩=>?_)
   exact Ah (Ab hc hr4c)
  .exact Ah (Ab hc hr2c)
theorem Bjz {b:List YB} {a0:Aw} (hc:Bv b a0):Tot (fun r=>r.2.1.1.length<=40/\Bv b r.2.2) (Apv a0):=by
 unfold Apv An7
 simp only[Af,Ag,Aa,Aj,List.length_nil,List.nil_append,Nat.zero_add]
 refine Ad (Bf _ hc A0) (fun r1 ⟨⟨hr11,hr12⟩,hr1c⟩=>?_)
 refine An (fun hb1=>?_) (fun hb1=>?_)
 .have hd1:=eq_of_beq hb1
  refine Ad (Bf _ (Ab hc hr1c) A0) (fun r2 ⟨⟨hr21,hr22⟩,hr2c⟩=>?_)
  refine Ad (C0 _ (Ab hc hr2c) A0) (fun r3 ⟨⟨hr31,hr32⟩,hr3c⟩=>?_)
  exact Ah ⟨Bo,(Ab hc hr3c)⟩
 .refine An (fun hb6=>?_) (fun hb6=>?_)
  .have hd6:=eq_of_beq hb6
   refine Ad (Bf _ (Ab hc hr1c) A0) (fun r4 ⟨⟨hr41,hr42⟩,hr4c⟩=>?_)
   refine Ad (C0 _ (Ab hc hr4c) A0) (fun r5 ⟨⟨hr51,hr52⟩,hr5c⟩=>?_)
   exact Ah ⟨Bo,(Ab hc hr5c)⟩
  .refine Ad (C8 _ (0) (40) (Ab hc hr1c) zq7 zq7) (fun r6 ⟨⟨hr61,hr62⟩,hr6c⟩=>?_)
   refine Ad (C0 _ (Ab hc hr6c) A0) (fun r7 ⟨⟨hr71,hr72⟩,hr7c⟩=>?_)
   exact Ah ⟨Bo,(Ab hc hr7c)⟩
theorem To {b:List YB} {a0:Aw} (a1:YBs) (hc:Bv b a0) (hl:a1.1.length<=1000000):Tot (fun r=>(r.1.1.length<=a1.1.length+1/\(wfB a1.1->wfB r.1.1))/\Bv b r.2) (Kh a0 a1):=by
 unfold Kh An6
 simp only[Af,Ag,Aa,Aj,List.length_nil,List.nil_append,Nat.zero_add]
 refine Ej (Al A0) ?_
 refine Ad (Bf _ hc A0) (fun r1 ⟨⟨hr11,hr12⟩,hr1c⟩=>?_)
 refine An (fun hb2=>?_) (fun hb2=>?_)
 .have hd2:=eq_of_beq hb2
  refine An (fun hb4=>?_) (fun hb4=>?_)
  .have hd4:=of_decide_eq_true hb4
   refine Ad (Bf _ (Ab hc hr1c) A0) (fun r2 ⟨⟨hr21,hr22⟩,hr2c⟩=>?_)
   refine Ad (E7 (P:=fun _=>True) A0 A0 (fun _ _=>trivial)) (fun e3 _=>?_)
   refine Ad (Bf _ (Ab hc hr2c) A0) (fun r4 ⟨⟨hr41,hr42⟩,hr4c⟩=>?_)
   refine Ad (E7 (P:=fun _=>True) A0 A0 (fun _ _=>trivial)) (fun e5 _=>?_)
   exact Ah ⟨⟨Bo,fun hw=>by(first|exact hw|exact Aes hw (u8_in _)|exact Aal hw|exact Vy hw (u8_in _))⟩,(Ab hc hr4c)⟩
  .have hd4:=of_decide_eq_false hb4
   exact Ah ⟨⟨Bo,fun hw=>by(first|exact hw|exact Aes hw (u8_in _)|exact Aal hw|exact Vy hw (u8_in _))⟩,(Ab hc hr1c)⟩
 .refine An (fun hb13=>?_) (fun hb13=>?_)
  .have hd13:=eq_of_beq hb13
   refine An (fun hb15=>?_) (fun hb15=>?_)
   .have hd15:=of_decide_eq_true hb15
    refine Ad (Bf _ (Ab hc hr1c) A0) (fun r7 ⟨⟨hr71,hr72⟩,hr7c⟩=>?_)
    refine Ej (Al A0) ?_
    refine Ej (Al A0) ?_
    exact Ah ⟨⟨Bo,fun hw=>by(first|exact hw|exact Aes hw (u8_in _)|exact Aal hw|exact Vy hw (u8_in _))⟩,(Ab hc hr7c)⟩
   .have hd15:=of_decide_eq_false hb15
    exact Ah ⟨⟨Bo,fun hw=>by(first|exact hw|exact Aes hw (u8_in _)|exact Aal hw|exact Vy hw (u8_in _))⟩,(Ab hc hr1c)⟩
  .refine An (fun hb23=>?_) (fun hb23=>?_)
   .have hd23:=eq_of_beq hb23
    refine Ad (Pf (Ab hc hr1c)) (fun r8 ⟨⟨hr81,hr82⟩,hr8c⟩=>?_)
    refine Ej (Al A0) ?_
    exact Ah ⟨⟨Bo,fun hw=>by(first|exact hw|exact Aes hw (u8_in _)|exact Aal hw|exact Vy hw (u8_in _))⟩,(Ab hc hr8c)⟩
   .exact Ah ⟨⟨Bo,fun hw=>by(first|exact hw|exact Aes hw (u8_in _)|exact Aal hw|exact Vy hw (u8_in _))⟩,(Ab hc hr1c)⟩
theorem Ca {b:List YB} {a0:Aw} (a1:Ar) (hc:Bv b a0) (hn:Aq a1<=200000) (hw:wfB a1.2.2.2.1):Tot (fun r=>(Aq r.1<=Aq a1+1/\wfB r.1.2.2.2.1)/\Bv b r.2) (B8 a0 a1):=by
 unfold B8 Aod
 simp only[Af,Ag,Aa,Aj,List.length_nil,List.nil_append,Nat.zero_add]
 rw[Aqu _ zq0]
 simp only[Ae]
 refine Ad (Bf _ hc A0) (fun r2 ⟨⟨hr21,hr22⟩,hr2c⟩=>?_)
 refine An (fun hb3=>?_) (fun hb3=>?_)
 .have hd3:=eq_of_beq hb3
  refine Ad (C8 _ (-1) (7) (Ab hc hr2c) zq7 zq7) (fun r3 ⟨⟨hr31,hr32⟩,hr3c⟩=>?_)
  exact Ah ⟨⟨Bo,Aqf⟩,(Ab hc hr3c)⟩
 .refine An (fun hb7=>?_) (fun hb7=>?_)
  .have hd7:=eq_of_beq hb7
   refine Ad (C8 _ (-1) (1) (Ab hc hr2c) zq7 zq7) (fun r4 ⟨⟨hr41,hr42⟩,hr4c⟩=>?_)
   exact Ah ⟨⟨Bo,Aqf⟩,(Ab hc hr4c)⟩
  .refine An (fun hb11=>?_) (fun hb11=>?_)
   .have hd11:=eq_of_beq hb11
    refine Ad (To _ (Ab hc hr2c) A0) (fun r5 ⟨⟨hr51,hr52⟩,hr5c⟩=>?_)
    exact Ah ⟨⟨Bo,Aqf⟩,(Ab hc hr5c)⟩
   .refine An (fun hb15=>?_) (fun hb15=>?_)
    .have hd15:=eq_of_beq hb15
     refine Ad (To _ (Ab hc hr2c) A0) (fun r6 ⟨⟨hr61,hr62⟩,hr6c⟩=>?_)
     exact Ah ⟨⟨Bo,Aqf⟩,(Ab hc hr6c)⟩
    .refine An (fun hb19=>?_) (fun hb19=>?_)
     .have hd19:=eq_of_beq hb19
      refine Ad (To _ (Ab hc hr2c) A0) (fun r7 ⟨⟨hr71,hr72⟩,hr7c⟩=>?_)
      exact Ah ⟨⟨Bo,Aqf⟩,(Ab hc hr7c)⟩
     .refine An (fun hb23=>?_) (fun hb23=>?_)
      .have hd23:=eq_of_beq hb23
       refine Ad (To _ (Ab hc hr2c) A0) (fun r8 ⟨⟨hr81,hr82⟩,hr8c⟩=>?_)
       exact Ah ⟨⟨Bo,Aqf⟩,(Ab hc hr8c)⟩
      .refine An (fun hb27=>?_) (fun hb27=>?_)
       .have hd27:=eq_of_beq hb27
        refine Ad (To _ (Ab hc hr2c) A0) (fun r9 ⟨⟨hr91,hr92⟩,hr9c⟩=>?_)
        exact Ah ⟨⟨Bo,Aqf⟩,(Ab hc hr9c)⟩
       .refine An (fun hb31=>?_) (fun hb31=>?_)
        .have hd31:=eq_of_beq hb31
         refine Ad (Bf _ (Ab hc hr2c) A0) (fun r10 ⟨⟨hr101,hr102⟩,hr10c⟩=>?_)
         exact Ah ⟨⟨Bo,Aqf⟩,(Ab hc hr10c)⟩
        .exact Ah ⟨⟨Bo,Aqf⟩,(Ab hc hr2c)⟩
theorem Bab {b:List YB} {a0:Aw} (hc:Bv b a0):Tot (fun r=>(Aq r.1<=60/\wfB r.1.2.2.2.1)/\Bv b r.2) (P0 a0):=by
 unfold P0 U8
 simp only[Af,Ag,Aa,Aj,List.length_nil,List.nil_append,Nat.zero_add]
 refine Ad (C0 _ hc A0) (fun r1 ⟨⟨hr11,hr12⟩,hr1c⟩=>?_)
 refine Ad (C0 _ (Ab hc hr1c) A0) (fun r2 ⟨⟨hr21,hr22⟩,hr2c⟩=>?_)
 refine Ad (Bf _ (Ab hc hr2c) A0) (fun r3 ⟨⟨hr31,hr32⟩,hr3c⟩=>?_)
 refine Ad (C0 _ (Ab hc hr3c) A0) (fun r4 ⟨⟨hr41,hr42⟩,hr4c⟩=>?_)
 exact Ah ⟨⟨Bo,by(dsimp only;first|exact Gw|assumption)⟩,(Ab hc hr4c)⟩
theorem Bj0 (w:Dk) (n:YI) (h:w.2.1.length=32):Tot (fun r=>r.1.2.1.length=32) (Xi w n):=by
 have hn:=Ak1 w n.1
 simp only[Hr]at hn
 rw[A01 w n zq0]
 cases Jg w n.1 with
 |false=>exact Ah h
 |true=>exact Ah (by show(J7 w n.1).2.1.length=32;omega)
theorem Bmw (l:(List YI)×Unit) (hl:l.1.length<=1000):Tot (fun r=>r.2.1.length=32) (Ab8 l):=by
 unfold Ab8 Ahx
 simp only[Af,Ag,Aa,Aj]
 rw[Ag2,Ag3]
 simp only[Ae]
 have hloop:Tot (fun o:Int×(List YI)×Int×(List YI)×Unit=>o.2.2.2.1.length=32) (Ay Uc (l.1,(0:Int),(0:Int),([]:List YI),Ace.1,Ace.2.1,())):=by
  refine Tn (fun i d=>d.1=l.1/\d.2.1=(i:Int)/\d.2.2.2.2.2.1.length=32) _ l.1.length ?_ ⟨rfl,rfl,by simp[Ace]⟩
  rintro i ⟨m,k,a1,a2,a3,a4,⟨⟩⟩ hi ⟨g1,g2,g3⟩
  dsimp only at g1 g2 g3
  subst g1 g2
  unfold Uc
  simp only[Af,Ag,Aa,Aj]
  refine An (fun h=>?_) (fun h=>Ah (.inr ⟨_,rfl,g3⟩))
  have h:=of_decide_eq_true h
  refine Ad (E7 (P:=fun _=>True) zq0 h (fun _ _=>trivial)) (fun e _=>?_)
  refine Ad (Bj0 _ _ g3) (fun r hr=>Ah (.inl ⟨_,rfl,by omega,rfl,?_,hr⟩))
  show IntKind.i64.wrap ((i:Int)+1)=((i+1:Nat):Int)
  rw[w64 zq0];omega
 exact Ad hloop (fun o ho=>Ah ho)
theorem A35 {b:List YB} {a0:Aw} (n:YI) (hc:Bv b a0) (hn:0<=n.1/\n.1<=20):Tot (fun r=>r.1.1.length<=1000/\Bv b r.2) (Apt a0 n):=by
 unfold Apt Anv
 simp only[Af,Ag,Aa,Aj]
 refine Ad (C8 _ (0) (281474976710000) hc zq7 zq7) (fun r1 ⟨_,h1c⟩=>?_)
 have hw:IntKind.i64.wrap (n.1+1)=n.1+1:=w64 zq0
 refine Ad (Bf _ (Ab hc h1c) zq2) (fun r2 ⟨⟨h1,h2⟩,h2c⟩=>?_)
 dsimp only at h2
 have hloop: ∀q,Tot (fun o:(List YI)×(List YB)×Int×Int×Unit=>o.1.length<=999/\Bv b (o.2.1,o.2.2.1,o.2.2.2.1,())) (Ay Wx (([]:List YI),q,r2.1.1,a0.1,r2.2.2.1,r2.2.2.2.1,())):=by
  intro q
  refine Tn (fun i d=>d.1.length=i/\d.2.2.1=r2.1.1-i/\Bv b (d.2.2.2.1,d.2.2.2.2.1,d.2.2.2.2.2.1,())) _ r2.1.1.toNat ?_ ⟨rfl,by dsimp only;omega,Ab hc h2c⟩
  rintro i ⟨l,q,k,c1,c2,c3,⟨⟩⟩ hi ⟨g1,g2,g3⟩
  dsimp only at g1 g2 g3
  unfold Wx
  simp only[Af,Ag,Aa,Aj]
  refine An (fun h=>?_) (fun h=>Ah (.inr ⟨_,rfl,by dsimp only;omega,g3⟩))
  have h:=of_decide_eq_true h
  refine Ad (Az _ g3 zq7) (fun r4 h4c=>?_)
  refine An (fun _=>?_) (fun _=>?_)
  .refine Ad (C8 _ (1) (3000) (Ab g3 h4c) zq7 zq7) (fun r5 ⟨_,h5c⟩=>?_)
   refine Ad (Bf _ (Ab g3 h5c) zq7) (fun r6 ⟨_,h6c⟩=>?_)
   refine Ad (C8 _ (0) (1000) (Ab g3 h6c) zq7 zq7) (fun r7 ⟨_,h7c⟩=>?_)
   refine Ej (Al zq1) (Ah (.inl ⟨_,rfl,by omega,by simp;omega,?_,(by have:=Ab g3 h7c;exact this)⟩))
   dsimp only
   rw[w64 zq0];omega
  .refine Ad (Bf _ (Ab g3 h4c) zq7) (fun r6 ⟨_,h6c⟩=>?_)
   refine Ad (C8 _ (0) (1000) (Ab g3 h6c) zq7 zq7) (fun r7 ⟨_,h7c⟩=>?_)
   refine Ej (Al zq1) (Ah (.inl ⟨_,rfl,by omega,by simp;omega,?_,(by have:=Ab g3 h7c;exact this)⟩))
   dsimp only
   rw[w64 zq0];omega
 refine Ad (hloop _) (fun o ⟨ho,hoc⟩=>?_)
 refine Ad (Az _ hoc zq7) (fun r11 h11c=>?_)
 refine An (fun _=>?_) (fun _=>?_)
 .refine Ad (C8 _ (-1) (281474976710656) (Ab hoc h11c) zq7 zq7) (fun r12 ⟨_,h12c⟩=>?_)
  exact Ej (Al zq1) (Ah ⟨by simp;omega,Ab hoc h12c⟩)
 .exact Ah ⟨by dsimp only;omega,Ab hoc h11c⟩
theorem Bmx (c:YBs):Tot (fun _=>True) (Rs c):=by rw[Aai];exact Ah trivial
theorem Bj1 (c:A6):Tot (fun _=>True) (Hl c):=by rw[Iv];exact Ah trivial
theorem H6 (k:YBs):Tot (fun r=>r.1.length<=32) (Dp k (Da [114,101,107,101,121],())):=by
 have h:=Aqr k.1 Qb
 have e:Dp k (Da [114,101,107,101,121],())=some (Gg k.1 Qb,()):=Aip k.1
 rw[e];exact Ah zq2
theorem Ade (n:YI):Tot (fun r=>r.1.length<=4) (Fd n):=by
 have e:Fd n=some (Uw n.1,()):=Akw n.1
 rw[e];exact Ah (A8f n.1)
theorem Cu (k:YBs) (r:YI) (sn:YBs) (ep seq kind:YI) (p:YBs) (h1:sn.1.length<=60000000) (h2:p.1.length<=60000000):Tot (fun q=>Aq q.1<=sn.1.length+p.1.length+100/\(wfB sn.1->wfB q.1.2.2.2.1)) (B0 k r sn ep seq kind p):=by
 have e:B0 k r sn ep seq kind p=some (Gq k.1 r.1 sn.1 ep.1 seq.1 kind.1 p.1):=Bl8 k.1 r.1 sn.1 ep.1 seq.1 kind.1 p.1 zq0 zq0
 have hm:=Avc k.1 (Ei r.1 sn.1 ep.1 seq.1) p.1
 rw[e]
 refine Ah ?_
 unfold Gq
 cases Mw k.1 r.1 sn.1 ep.1 seq.1 kind.1 p.1 with
 |false=>exact⟨by simp[Aq,Hz],fun _=>Gw⟩
 |true=>
  refine⟨?_,fun h=>h⟩
  have ht: ∀m,(T5 k.1 m).length<=16:=fun m=>by unfold T5;rw[List.length_take];omega
  have:=ht (D3 r.1 (kind.1,0,[],sn.1,0,[],[],ep.1,seq.1,mix k.1 (Ei r.1 sn.1 ep.1 seq.1) p.1,Qa,()))
  simp only[cond_true,Aq,List.length_nil]
  omega
theorem Bj2 {b:List YB} {a0:Aw} (hc:Bv b a0):Tot (fun r=>r.1.2.1.length=32/\Bv b r.2) (Xj a0):=by
 unfold Xj Adp
 simp only[Af,Ag,Aa,Aj,List.length_nil,List.nil_append,Nat.zero_add]
 refine Ad (A35 _ hc A0) (fun r1 ⟨hr11,hr1c⟩=>?_)
 refine Ad (Bmw _ Ni) (fun r2 hr21=>?_)
 exact Ah ⟨by assumption,(Ab hc hr1c)⟩
theorem Ay8 (a0:YI) (a1 a2:YBs) (hl:a1.1.length<=1000):Tot (fun r=>A7 r<=100/\(wfB a1.1->wfB r.2.1)) (Hf a0 a1 a2):=by
 unfold Hf Ub
 simp only[Af,Ag,Aa,Aj,List.length_nil,List.nil_append,Nat.zero_add]
 refine Ad (Bdc _ _ _) (fun r1 _=>?_)
 refine An (fun hb1=>?_) (fun hb1=>?_)
 .exact Ah ⟨Bo,fun hw=>by(dsimp only;first|exact Gw|exact hw)⟩
 .refine An (fun hb3=>?_) (fun hb3=>?_)
  .exact Ah ⟨Bo,fun hw=>by(dsimp only;first|exact Gw|exact hw)⟩
  .have hd3:=bne_eq_false_iff_eq.1 hb3
   refine An (fun hb6=>?_) (fun hb6=>?_)
   .exact Ah ⟨Bo,fun hw=>by(dsimp only;first|exact Gw|exact hw)⟩
   .have hd6:=bne_eq_false_iff_eq.1 hb6
    refine Ej (Al A0) ?_
    refine Ad (Wg _ _) (fun r2 hr21=>?_)
    exact Ah ⟨Bo,fun hw=>by(dsimp only;first|exact Gw|exact hw)⟩
theorem Bf7 {b:List YB} {a0:Aw} (a1:YI) (hc:Bv b a0):Tot (fun r=>(A7 r.1<=400/\wfB r.1.2.1)/\Bv b r.2) (Um a0 a1):=by
 unfold Um Aa2
 simp only[Af,Ag,Aa,Aj,List.length_nil,List.nil_append,Nat.zero_add]
 refine Ad (C0 _ hc A0) (fun r1 ⟨⟨hr11,hr12⟩,hr1c⟩=>?_)
 refine Ad (C0 _ (Ab hc hr1c) A0) (fun r2 ⟨⟨hr21,hr22⟩,hr2c⟩=>?_)
 refine Ad (Ay8 _ _ _ A0) (fun r3 ⟨hr31,hr32⟩=>?_)
 refine Ad (C8 _ (0) (281474976710656) (Ab hc hr2c) zq7 zq7) (fun r4 ⟨⟨hr41,hr42⟩,hr4c⟩=>?_)
 refine Ad (Az _ (Ab hc hr4c) A0) (fun r5 hr5c=>?_)
 refine An (fun hb5=>?_) (fun hb5=>?_)
 .refine Ad (Bj2 (Ab hc hr5c)) (fun r6 ⟨hr61,hr6c⟩=>?_)
  refine Ad (Az _ (Ab hc hr6c) A0) (fun r7 hr7c=>?_)
  refine An (fun hb8=>?_) (fun hb8=>?_)
  .refine Ad (C8 _ (1) (4294967295) (Ab hc hr7c) zq7 zq7) (fun r8 ⟨⟨hr81,hr82⟩,hr8c⟩=>?_)
   refine Ad (H6 _) (fun r9 hr91=>?_)
   refine Ad (Wg _ _) (fun r10 hr101=>?_)
   refine Ad (C8 _ (-1) (1000005) (Ab hc hr8c) zq7 zq7) (fun r11 ⟨⟨hr111,hr112⟩,hr11c⟩=>?_)
   refine An (fun hb13=>?_) (fun hb13=>?_)
   .have hd13:=eq_of_beq hb13
    refine An (fun hb15=>?_) (fun hb15=>?_)
    .have hd15:=of_decide_eq_true hb15
     refine An (fun hb17=>?_) (fun hb17=>?_)
     .have hd17:=eq_of_beq hb17
      refine An (fun hb19=>?_) (fun hb19=>?_)
      .have hd19:=of_decide_eq_true hb19
       refine Ad (Az _ (Ab hc hr11c) A0) (fun r12 hr12c=>?_)
       refine An (fun hb22=>?_) (fun hb22=>?_)
       .refine Ad (H6 _) (fun r13 hr131=>?_)
        exact Ah ⟨⟨Bo,Bz⟩,(Ab hc hr12c)⟩
       .exact Ah ⟨⟨Bo,Bz⟩,(Ab hc hr12c)⟩
      .have hd19:=of_decide_eq_false hb19
       exact Ah ⟨⟨Bo,Bz⟩,(Ab hc hr11c)⟩
     .exact Ah ⟨⟨Bo,Bz⟩,(Ab hc hr11c)⟩
    .have hd15:=of_decide_eq_false hb15
     refine An (fun hb30=>?_) (fun hb30=>?_)
     .have hd30:=eq_of_beq hb30
      refine An (fun hb32=>?_) (fun hb32=>?_)
      .have hd32:=of_decide_eq_true hb32
       refine Ad (Az _ (Ab hc hr11c) A0) (fun r14 hr14c=>?_)
       refine An (fun hb35=>?_) (fun hb35=>?_)
       .refine Ad (H6 _) (fun r15 hr151=>?_)
        exact Ah ⟨⟨Bo,Bz⟩,(Ab hc hr14c)⟩
       .exact Ah ⟨⟨Bo,Bz⟩,(Ab hc hr14c)⟩
      .have hd32:=of_decide_eq_false hb32
       exact Ah ⟨⟨Bo,Bz⟩,(Ab hc hr11c)⟩
     .exact Ah ⟨⟨Bo,Bz⟩,(Ab hc hr11c)⟩
   .refine An (fun hb42=>?_) (fun hb42=>?_)
    .have hd42:=eq_of_beq hb42
     refine An (fun hb44=>?_) (fun hb44=>?_)
     .have hd44:=of_decide_eq_true hb44
      refine Ad (Az _ (Ab hc hr11c) A0) (fun r16 hr16c=>?_)
      refine An (fun hb47=>?_) (fun hb47=>?_)
      .refine Ad (H6 _) (fun r17 hr171=>?_)
       exact Ah ⟨⟨Bo,Bz⟩,(Ab hc hr16c)⟩
      .exact Ah ⟨⟨Bo,Bz⟩,(Ab hc hr16c)⟩
     .have hd44:=of_decide_eq_false hb44
      exact Ah ⟨⟨Bo,Bz⟩,(Ab hc hr11c)⟩
    .exact Ah ⟨⟨Bo,Bz⟩,(Ab hc hr11c)⟩
  .refine An (fun hb54=>?_) (fun hb54=>?_)
   .have hd54:=eq_of_beq hb54
    refine An (fun hb56=>?_) (fun hb56=>?_)
    .have hd56:=of_decide_eq_true hb56
     refine Ad (Az _ (Ab hc hr7c) A0) (fun r18 hr18c=>?_)
     refine An (fun hb59=>?_) (fun hb59=>?_)
     .refine Ad (H6 _) (fun r19 hr191=>?_)
      exact Ah ⟨⟨Bo,Bz⟩,(Ab hc hr18c)⟩
     .exact Ah ⟨⟨Bo,Bz⟩,(Ab hc hr18c)⟩
    .have hd56:=of_decide_eq_false hb56
     exact Ah ⟨⟨Bo,Bz⟩,(Ab hc hr7c)⟩
   .exact Ah ⟨⟨Bo,Bz⟩,(Ab hc hr7c)⟩
 .refine Ad (Az _ (Ab hc hr5c) A0) (fun r20 hr20c=>?_)
  refine An (fun hb67=>?_) (fun hb67=>?_)
  .refine Ad (C8 _ (1) (4294967295) (Ab hc hr20c) zq7 zq7) (fun r21 ⟨⟨hr211,hr212⟩,hr21c⟩=>?_)
   refine Ad (H6 _) (fun r22 hr221=>?_)
   refine Ad (Wg _ _) (fun r23 hr231=>?_)
   refine Ad (C8 _ (-1) (1000005) (Ab hc hr21c) zq7 zq7) (fun r24 ⟨⟨hr241,hr242⟩,hr24c⟩=>?_)
   refine An (fun hb72=>?_) (fun hb72=>?_)
   .have hd72:=eq_of_beq hb72
    refine An (fun hb74=>?_) (fun hb74=>?_)
    .have hd74:=of_decide_eq_true hb74
     refine An (fun hb76=>?_) (fun hb76=>?_)
     .have hd76:=eq_of_beq hb76
      refine An (fun hb78=>?_) (fun hb78=>?_)
      .have hd78:=of_decide_eq_true hb78
       refine Ad (Az _ (Ab hc hr24c) A0) (fun r25 hr25c=>?_)
       refine An (fun hb81=>?_) (fun hb81=>?_)
       .refine Ad (H6 _) (fun r26 hr261=>?_)
        exact Ah ⟨⟨Bo,Bz⟩,(Ab hc hr25c)⟩
       .exact Ah ⟨⟨Bo,Bz⟩,(Ab hc hr25c)⟩
      .have hd78:=of_decide_eq_false hb78
       exact Ah ⟨⟨Bo,Bz⟩,(Ab hc hr24c)⟩
     .exact Ah ⟨⟨Bo,Bz⟩,(Ab hc hr24c)⟩
    .have hd74:=of_decide_eq_false hb74
     refine An (fun hb89=>?_) (fun hb89=>?_)
     .have hd89:=eq_of_beq hb89
      refine An (fun hb91=>?_) (fun hb91=>?_)
      .have hd91:=of_decide_eq_true hb91
       refine Ad (Az _ (Ab hc hr24c) A0) (fun r27 hr27c=>?_)
       refine An (fun hb94=>?_) (fun hb94=>?_)
       .refine Ad (H6 _) (fun r28 hr281=>?_)
        exact Ah ⟨⟨Bo,Bz⟩,(Ab hc hr27c)⟩
       .exact Ah ⟨⟨Bo,Bz⟩,(Ab hc hr27c)⟩
      .have hd91:=of_decide_eq_false hb91
       exact Ah ⟨⟨Bo,Bz⟩,(Ab hc hr24c)⟩
     .exact Ah ⟨⟨Bo,Bz⟩,(Ab hc hr24c)⟩
   .refine An (fun hb101=>?_) (fun hb101=>?_)
    .have hd101:=eq_of_beq hb101
     refine An (fun hb103=>?_) (fun hb103=>?_)
     .have hd103:=of_decide_eq_true hb103
      refine Ad (Az _ (Ab hc hr24c) A0) (fun r29 hr29c=>?_)
      refine An (fun hb106=>?_) (fun hb106=>?_)
      .refine Ad (H6 _) (fun r30 hr301=>?_)
       exact Ah ⟨⟨Bo,Bz⟩,(Ab hc hr29c)⟩
      .exact Ah ⟨⟨Bo,Bz⟩,(Ab hc hr29c)⟩
     .have hd103:=of_decide_eq_false hb103
      exact Ah ⟨⟨Bo,Bz⟩,(Ab hc hr24c)⟩
    .exact Ah ⟨⟨Bo,Bz⟩,(Ab hc hr24c)⟩
  .refine An (fun hb113=>?_) (fun hb113=>?_)
   .have hd113:=eq_of_beq hb113
    refine An (fun hb115=>?_) (fun hb115=>?_)
    .have hd115:=of_decide_eq_true hb115
     refine Ad (Az _ (Ab hc hr20c) A0) (fun r31 hr31c=>?_)
     refine An (fun hb118=>?_) (fun hb118=>?_)
     .refine Ad (H6 _) (fun r32 hr321=>?_)
      exact Ah ⟨⟨Bo,Bz⟩,(Ab hc hr31c)⟩
     .exact Ah ⟨⟨Bo,Bz⟩,(Ab hc hr31c)⟩
    .have hd115:=of_decide_eq_false hb115
     exact Ah ⟨⟨Bo,Bz⟩,(Ab hc hr20c)⟩
   .exact Ah ⟨⟨Bo,Bz⟩,(Ab hc hr20c)⟩
theorem Bdd {b:List YB} {a0:Aw} (a1:Ap) (hc:Bv b a0) (hn:A7 a1<=100000) (hw:wfB a1.2.1):Tot (fun r=>(Aq r.1<=A7 a1+200/\wfB r.1.2.2.2.1)/\Bv b r.2) (Xk a0 a1):=by
 unfold Xk Afe
 simp only[Af,Ag,Aa,Aj,List.length_nil,List.nil_append,Nat.zero_add]
 refine Ad (Bjz hc) (fun r1 ⟨hr11,hr1c⟩=>?_)
 refine An (fun hb1=>?_) (fun hb1=>?_)
 .refine Ad (Az _ (Ab hc hr1c) A0) (fun r2 hr2c=>?_)
  refine An (fun hb3=>?_) (fun hb3=>?_)
  .refine An (fun hb4=>?_) (fun hb4=>?_)
   .have hd4:=of_decide_eq_true hb4
    refine Ad (Az _ (Ab hc hr2c) A0) (fun r3 hr3c=>?_)
    refine An (fun hb7=>?_) (fun hb7=>?_)
    .refine Ad (Wg _ _) (fun r4 hr41=>?_)
     refine Ad (C8 _ (-1) (5) (Ab hc hr3c) zq7 zq7) (fun r5 ⟨⟨hr51,hr52⟩,hr5c⟩=>?_)
     refine An (fun hb10=>?_) (fun hb10=>?_)
     .have hd10:=of_decide_eq_true hb10
      refine Ad (Az _ (Ab hc hr5c) A0) (fun r6 hr6c=>?_)
      refine An (fun hb13=>?_) (fun hb13=>?_)
      .refine Ad (Cu _ _ _ _ _ _ _ A0 A0) (fun r7 ⟨hr71,hr72⟩=>?_)
       refine Ad (Az _ (Ab hc hr6c) A0) (fun r8 hr8c=>?_)
       refine An (fun hb16=>?_) (fun hb16=>?_)
       .refine Ad (Ca _ (Ab hc hr8c) A0 Gj) (fun r9 ⟨⟨hr91,hr92⟩,hr9c⟩=>?_)
        exact Ah ⟨⟨Bo,Bz⟩,(Ab hc hr9c)⟩
       .exact Ah ⟨⟨Bo,Bz⟩,(Ab hc hr8c)⟩
      .refine Ad (Cu _ _ _ _ _ _ _ A0 A0) (fun r10 ⟨hr101,hr102⟩=>?_)
       refine Ad (Az _ (Ab hc hr6c) A0) (fun r11 hr11c=>?_)
       refine An (fun hb22=>?_) (fun hb22=>?_)
       .refine Ad (Ca _ (Ab hc hr11c) A0 Gj) (fun r12 ⟨⟨hr121,hr122⟩,hr12c⟩=>?_)
        exact Ah ⟨⟨Bo,Bz⟩,(Ab hc hr12c)⟩
       .exact Ah ⟨⟨Bo,Bz⟩,(Ab hc hr11c)⟩
     .have hd10:=of_decide_eq_false hb10
      refine Ad (Az _ (Ab hc hr5c) A0) (fun r13 hr13c=>?_)
      refine An (fun hb28=>?_) (fun hb28=>?_)
      .refine Ad (Cu _ _ _ _ _ _ _ A0 A0) (fun r14 ⟨hr141,hr142⟩=>?_)
       refine Ad (Az _ (Ab hc hr13c) A0) (fun r15 hr15c=>?_)
       refine An (fun hb31=>?_) (fun hb31=>?_)
       .refine Ad (Ca _ (Ab hc hr15c) A0 Gj) (fun r16 ⟨⟨hr161,hr162⟩,hr16c⟩=>?_)
        exact Ah ⟨⟨Bo,Bz⟩,(Ab hc hr16c)⟩
       .exact Ah ⟨⟨Bo,Bz⟩,(Ab hc hr15c)⟩
      .refine Ad (Cu _ _ _ _ _ _ _ A0 A0) (fun r17 ⟨hr171,hr172⟩=>?_)
       refine Ad (Az _ (Ab hc hr13c) A0) (fun r18 hr18c=>?_)
       refine An (fun hb37=>?_) (fun hb37=>?_)
       .refine Ad (Ca _ (Ab hc hr18c) A0 Gj) (fun r19 ⟨⟨hr191,hr192⟩,hr19c⟩=>?_)
        exact Ah ⟨⟨Bo,Bz⟩,(Ab hc hr19c)⟩
       .exact Ah ⟨⟨Bo,Bz⟩,(Ab hc hr18c)⟩
    .refine Ad (C8 _ (-1) (5) (Ab hc hr3c) zq7 zq7) (fun r20 ⟨⟨hr201,hr202⟩,hr20c⟩=>?_)
     refine An (fun hb42=>?_) (fun hb42=>?_)
     .have hd42:=of_decide_eq_true hb42
      refine Ad (Az _ (Ab hc hr20c) A0) (fun r21 hr21c=>?_)
      refine An (fun hb45=>?_) (fun hb45=>?_)
      .refine Ad (Cu _ _ _ _ _ _ _ A0 A0) (fun r22 ⟨hr221,hr222⟩=>?_)
       refine Ad (Az _ (Ab hc hr21c) A0) (fun r23 hr23c=>?_)
       refine An (fun hb48=>?_) (fun hb48=>?_)
       .refine Ad (Ca _ (Ab hc hr23c) A0 Gj) (fun r24 ⟨⟨hr241,hr242⟩,hr24c⟩=>?_)
        exact Ah ⟨⟨Bo,Bz⟩,(Ab hc hr24c)⟩
       .exact Ah ⟨⟨Bo,Bz⟩,(Ab hc hr23c)⟩
      .refine Ad (Cu _ _ _ _ _ _ _ A0 A0) (fun r25 ⟨hr251,hr252⟩=>?_)
       refine Ad (Az _ (Ab hc hr21c) A0) (fun r26 hr26c=>?_)
       refine An (fun hb54=>?_) (fun hb54=>?_)
       .refine Ad (Ca _ (Ab hc hr26c) A0 Gj) (fun r27 ⟨⟨hr271,hr272⟩,hr27c⟩=>?_)
        exact Ah ⟨⟨Bo,Bz⟩,(Ab hc hr27c)⟩
       .exact Ah ⟨⟨Bo,Bz⟩,(Ab hc hr26c)⟩
     .have hd42:=of_decide_eq_false hb42
      refine Ad (Az _ (Ab hc hr20c) A0) (fun r28 hr28c=>?_)
      refine An (fun hb60=>?_) (fun hb60=>?_)
      .refine Ad (Cu _ _ _ _ _ _ _ A0 A0) (fun r29 ⟨hr291,hr292⟩=>?_)
       refine Ad (Az _ (Ab hc hr28c) A0) (fun r30 hr30c=>?_)
       refine An (fun hb63=>?_) (fun hb63=>?_)
       .refine Ad (Ca _ (Ab hc hr30c) A0 Gj) (fun r31 ⟨⟨hr311,hr312⟩,hr31c⟩=>?_)
        exact Ah ⟨⟨Bo,Bz⟩,(Ab hc hr31c)⟩
       .exact Ah ⟨⟨Bo,Bz⟩,(Ab hc hr30c)⟩
      .refine Ad (Cu _ _ _ _ _ _ _ A0 A0) (fun r32 ⟨hr321,hr322⟩=>?_)
       refine Ad (Az _ (Ab hc hr28c) A0) (fun r33 hr33c=>?_)
       refine An (fun hb69=>?_) (fun hb69=>?_)
       .refine Ad (Ca _ (Ab hc hr33c) A0 Gj) (fun r34 ⟨⟨hr341,hr342⟩,hr34c⟩=>?_)
        exact Ah ⟨⟨Bo,Bz⟩,(Ab hc hr34c)⟩
       .exact Ah ⟨⟨Bo,Bz⟩,(Ab hc hr33c)⟩
   .have hd4:=of_decide_eq_false hb4
    refine Ad (C8 _ (-1) (5) (Ab hc hr2c) zq7 zq7) (fun r35 ⟨⟨hr351,hr352⟩,hr35c⟩=>?_)
    refine An (fun hb75=>?_) (fun hb75=>?_)
    .have hd75:=of_decide_eq_true hb75
     refine Ad (Az _ (Ab hc hr35c) A0) (fun r36 hr36c=>?_)
     refine An (fun hb78=>?_) (fun hb78=>?_)
     .refine Ad (Cu _ _ _ _ _ _ _ A0 A0) (fun r37 ⟨hr371,hr372⟩=>?_)
      refine Ad (Az _ (Ab hc hr36c) A0) (fun r38 hr38c=>?_)
      refine An (fun hb81=>?_) (fun hb81=>?_)
      .refine Ad (Ca _ (Ab hc hr38c) A0 Gj) (fun r39 ⟨⟨hr391,hr392⟩,hr39c⟩=>?_)
       exact Ah ⟨⟨Bo,Bz⟩,(Ab hc hr39c)⟩
      .exact Ah ⟨⟨Bo,Bz⟩,(Ab hc hr38c)⟩
     .refine Ad (Cu _ _ _ _ _ _ _ A0 A0) (fun r40 ⟨hr401,hr402⟩=>?_)
      refine Ad (Az _ (Ab hc hr36c) A0) (fun r41 hr41c=>?_)
      refine An (fun hb87=>?_) (fun hb87=>?_)
      .refine Ad (Ca _ (Ab hc hr41c) A0 Gj) (fun r42 ⟨⟨hr421,hr422⟩,hr42c⟩=>?_)
       exact Ah ⟨⟨Bo,Bz⟩,(Ab hc hr42c)⟩
      .exact Ah ⟨⟨Bo,Bz⟩,(Ab hc hr41c)⟩
    .have hd75:=of_decide_eq_false hb75
     refine Ad (Az _ (Ab hc hr35c) A0) (fun r43 hr43c=>?_)
     refine An (fun hb93=>?_) (fun hb93=>?_)
     .refine Ad (Cu _ _ _ _ _ _ _ A0 A0) (fun r44 ⟨hr441,hr442⟩=>?_)
      refine Ad (Az _ (Ab hc hr43c) A0) (fun r45 hr45c=>?_)
      refine An (fun hb96=>?_) (fun hb96=>?_)
      .refine Ad (Ca _ (Ab hc hr45c) A0 Gj) (fun r46 ⟨⟨hr461,hr462⟩,hr46c⟩=>?_)
       exact Ah ⟨⟨Bo,Bz⟩,(Ab hc hr46c)⟩
      .exact Ah ⟨⟨Bo,Bz⟩,(Ab hc hr45c)⟩
     .refine Ad (Cu _ _ _ _ _ _ _ A0 A0) (fun r47 ⟨hr471,hr472⟩=>?_)
      refine Ad (Az _ (Ab hc hr43c) A0) (fun r48 hr48c=>?_)
      refine An (fun hb102=>?_) (fun hb102=>?_)
      .refine Ad (Ca _ (Ab hc hr48c) A0 Gj) (fun r49 ⟨⟨hr491,hr492⟩,hr49c⟩=>?_)
       exact Ah ⟨⟨Bo,Bz⟩,(Ab hc hr49c)⟩
      .exact Ah ⟨⟨Bo,Bz⟩,(Ab hc hr48c)⟩
  .refine An (fun hb106=>?_) (fun hb106=>?_)
   .have hd106:=of_decide_eq_true hb106
    refine Ad (Az _ (Ab hc hr2c) A0) (fun r50 hr50c=>?_)
    refine An (fun hb109=>?_) (fun hb109=>?_)
    .refine Ad (Wg _ _) (fun r51 hr511=>?_)
     refine Ad (C8 _ (-1) (5) (Ab hc hr50c) zq7 zq7) (fun r52 ⟨⟨hr521,hr522⟩,hr52c⟩=>?_)
     refine An (fun hb112=>?_) (fun hb112=>?_)
     .have hd112:=of_decide_eq_true hb112
      refine Ad (Az _ (Ab hc hr52c) A0) (fun r53 hr53c=>?_)
      refine An (fun hb115=>?_) (fun hb115=>?_)
      .refine Ad (Cu _ _ _ _ _ _ _ A0 A0) (fun r54 ⟨hr541,hr542⟩=>?_)
       refine Ad (Az _ (Ab hc hr53c) A0) (fun r55 hr55c=>?_)
       refine An (fun hb118=>?_) (fun hb118=>?_)
       .refine Ad (Ca _ (Ab hc hr55c) A0 Gj) (fun r56 ⟨⟨hr561,hr562⟩,hr56c⟩=>?_)
        exact Ah ⟨⟨Bo,Bz⟩,(Ab hc hr56c)⟩
       .exact Ah ⟨⟨Bo,Bz⟩,(Ab hc hr55c)⟩
      .refine Ad (Cu _ _ _ _ _ _ _ A0 A0) (fun r57 ⟨hr571,hr572⟩=>?_)
       refine Ad (Az _ (Ab hc hr53c) A0) (fun r58 hr58c=>?_)
       refine An (fun hb124=>?_) (fun hb124=>?_)
       .refine Ad (Ca _ (Ab hc hr58c) A0 Gj) (fun r59 ⟨⟨hr591,hr592⟩,hr59c⟩=>?_)
        exact Ah ⟨⟨Bo,Bz⟩,(Ab hc hr59c)⟩
       .exact Ah ⟨⟨Bo,Bz⟩,(Ab hc hr58c)⟩
     .have hd112:=of_decide_eq_false hb112
      refine Ad (Az _ (Ab hc hr52c) A0) (fun r60 hr60c=>?_)
      refine An (fun hb130=>?_) (fun hb130=>?_)
      .refine Ad (Cu _ _ _ _ _ _ _ A0 A0) (fun r61 ⟨hr611,hr612⟩=>?_)
       refine Ad (Az _ (Ab hc hr60c) A0) (fun r62 hr62c=>?_)
       refine An (fun hb133=>?_) (fun hb133=>?_)
       .refine Ad (Ca _ (Ab hc hr62c) A0 Gj) (fun r63 ⟨⟨hr631,hr632⟩,hr63c⟩=>?_)
        exact Ah ⟨⟨Bo,Bz⟩,(Ab hc hr63c)⟩
       .exact Ah ⟨⟨Bo,Bz⟩,(Ab hc hr62c)⟩
      .refine Ad (Cu _ _ _ _ _ _ _ A0 A0) (fun r64 ⟨hr641,hr642⟩=>?_)
       refine Ad (Az _ (Ab hc hr60c) A0) (fun r65 hr65c=>?_)
       refine An (fun hb139=>?_) (fun hb139=>?_)
       .refine Ad (Ca _ (Ab hc hr65c) A0 Gj) (fun r66 ⟨⟨hr661,hr662⟩,hr66c⟩=>?_)
        exact Ah ⟨⟨Bo,Bz⟩,(Ab hc hr66c)⟩
       .exact Ah ⟨⟨Bo,Bz⟩,(Ab hc hr65c)⟩
    .refine Ad (C8 _ (-1) (5) (Ab hc hr50c) zq7 zq7) (fun r67 ⟨⟨hr671,hr672⟩,hr67c⟩=>?_)
     refine An (fun hb144=>?_) (fun hb144=>?_)
     .have hd144:=of_decide_eq_true hb144
      refine Ad (Az _ (Ab hc hr67c) A0) (fun r68 hr68c=>?_)
      refine An (fun hb147=>?_) (fun hb147=>?_)
      .refine Ad (Cu _ _ _ _ _ _ _ A0 A0) (fun r69 ⟨hr691,hr692⟩=>?_)
       refine Ad (Az _ (Ab hc hr68c) A0) (fun r70 hr70c=>?_)
       refine An (fun hb150=>?_) (fun hb150=>?_)
       .refine Ad (Ca _ (Ab hc hr70c) A0 Gj) (fun r71 ⟨⟨hr711,hr712⟩,hr71c⟩=>?_)
        exact Ah ⟨⟨Bo,Bz⟩,(Ab hc hr71c)⟩
       .exact Ah ⟨⟨Bo,Bz⟩,(Ab hc hr70c)⟩
      .refine Ad (Cu _ _ _ _ _ _ _ A0 A0) (fun r72 ⟨hr721,hr722⟩=>?_)
       refine Ad (Az _ (Ab hc hr68c) A0) (fun r73 hr73c=>?_)
       refine An (fun hb156=>?_) (fun hb156=>?_)
       .refine Ad (Ca _ (Ab hc hr73c) A0 Gj) (fun r74 ⟨⟨hr741,hr742⟩,hr74c⟩=>?_)
        exact Ah ⟨⟨Bo,Bz⟩,(Ab hc hr74c)⟩
       .exact Ah ⟨⟨Bo,Bz⟩,(Ab hc hr73c)⟩
     .have hd144:=of_decide_eq_false hb144
      refine Ad (Az _ (Ab hc hr67c) A0) (fun r75 hr75c=>?_)
      refine An (fun hb162=>?_) (fun hb162=>?_)
      .refine Ad (Cu _ _ _ _ _ _ _ A0 A0) (fun r76 ⟨hr761,hr762⟩=>?_)
       refine Ad (Az _ (Ab hc hr75c) A0) (fun r77 hr77c=>?_)
       refine An (fun hb165=>?_) (fun hb165=>?_)
       .refine Ad (Ca _ (Ab hc hr77c) A0 Gj) (fun r78 ⟨⟨hr781,hr782⟩,hr78c⟩=>?_)
        exact Ah ⟨⟨Bo,Bz⟩,(Ab hc hr78c)⟩
       .exact Ah ⟨⟨Bo,Bz⟩,(Ab hc hr77c)⟩
      .refine Ad (Cu _ _ _ _ _ _ _ A0 A0) (fun r79 ⟨hr791,hr792⟩=>?_)
       refine Ad (Az _ (Ab hc hr75c) A0) (fun r80 hr80c=>?_)
       refine An (fun hb171=>?_) (fun hb171=>?_)
       .refine Ad (Ca _ (Ab hc hr80c) A0 Gj) (fun r81 ⟨⟨hr811,hr812⟩,hr81c⟩=>?_)
        exact Ah ⟨⟨Bo,Bz⟩,(Ab hc hr81c)⟩
       .exact Ah ⟨⟨Bo,Bz⟩,(Ab hc hr80c)⟩
   .have hd106:=of_decide_eq_false hb106
    refine Ad (C8 _ (-1) (5) (Ab hc hr2c) zq7 zq7) (fun r82 ⟨⟨hr821,hr822⟩,hr82c⟩=>?_)
    refine An (fun hb177=>?_) (fun hb177=>?_)
    .have hd177:=of_decide_eq_true hb177
     refine Ad (Az _ (Ab hc hr82c) A0) (fun r83 hr83c=>?_)
     refine An (fun hb180=>?_) (fun hb180=>?_)
     .refine Ad (Cu _ _ _ _ _ _ _ A0 A0) (fun r84 ⟨hr841,hr842⟩=>?_)
      refine Ad (Az _ (Ab hc hr83c) A0) (fun r85 hr85c=>?_)
      refine An (fun hb183=>?_) (fun hb183=>?_)
      .refine Ad (Ca _ (Ab hc hr85c) A0 Gj) (fun r86 ⟨⟨hr861,hr862⟩,hr86c⟩=>?_)
       exact Ah ⟨⟨Bo,Bz⟩,(Ab hc hr86c)⟩
      .exact Ah ⟨⟨Bo,Bz⟩,(Ab hc hr85c)⟩
     .refine Ad (Cu _ _ _ _ _ _ _ A0 A0) (fun r87 ⟨hr871,hr872⟩=>?_)
      refine Ad (Az _ (Ab hc hr83c) A0) (fun r88 hr88c=>?_)
      refine An (fun hb189=>?_) (fun hb189=>?_)
      .refine Ad (Ca _ (Ab hc hr88c) A0 Gj) (fun r89 ⟨⟨hr891,hr892⟩,hr89c⟩=>?_)
       exact Ah ⟨⟨Bo,Bz⟩,(Ab hc hr89c)⟩
      .exact Ah ⟨⟨Bo,Bz⟩,(Ab hc hr88c)⟩
    .have hd177:=of_decide_eq_false hb177
     refine Ad (Az _ (Ab hc hr82c) A0) (fun r90 hr90c=>?_)
     refine An (fun hb195=>?_) (fun hb195=>?_)
     .refine Ad (Cu _ _ _ _ _ _ _ A0 A0) (fun r91 ⟨hr911,hr912⟩=>?_)
      refine Ad (Az _ (Ab hc hr90c) A0) (fun r92 hr92c=>?_)
      refine An (fun hb198=>?_) (fun hb198=>?_)
      .refine Ad (Ca _ (Ab hc hr92c) A0 Gj) (fun r93 ⟨⟨hr931,hr932⟩,hr93c⟩=>?_)
       exact Ah ⟨⟨Bo,Bz⟩,(Ab hc hr93c)⟩
      .exact Ah ⟨⟨Bo,Bz⟩,(Ab hc hr92c)⟩
     .refine Ad (Cu _ _ _ _ _ _ _ A0 A0) (fun r94 ⟨hr941,hr942⟩=>?_)
      refine Ad (Az _ (Ab hc hr90c) A0) (fun r95 hr95c=>?_)
      refine An (fun hb204=>?_) (fun hb204=>?_)
      .refine Ad (Ca _ (Ab hc hr95c) A0 Gj) (fun r96 ⟨⟨hr961,hr962⟩,hr96c⟩=>?_)
       exact Ah ⟨⟨Bo,Bz⟩,(Ab hc hr96c)⟩
      .exact Ah ⟨⟨Bo,Bz⟩,(Ab hc hr95c)⟩
 .refine An (fun hb208=>?_) (fun hb208=>?_)
  .have hd208:=of_decide_eq_true hb208
   refine Ad (Az _ (Ab hc hr1c) A0) (fun r97 hr97c=>?_)
   refine An (fun hb211=>?_) (fun hb211=>?_)
   .refine Ad (Wg _ _) (fun r98 hr981=>?_)
    refine Ad (C8 _ (-1) (5) (Ab hc hr97c) zq7 zq7) (fun r99 ⟨⟨hr991,hr992⟩,hr99c⟩=>?_)
    refine An (fun hb214=>?_) (fun hb214=>?_)
    .have hd214:=of_decide_eq_true hb214
     refine Ad (Az _ (Ab hc hr99c) A0) (fun r100 hr100c=>?_)
     refine An (fun hb217=>?_) (fun hb217=>?_)
     .refine Ad (Cu _ _ _ _ _ _ _ A0 A0) (fun r101 ⟨hr1011,hr1012⟩=>?_)
      refine Ad (Az _ (Ab hc hr100c) A0) (fun r102 hr102c=>?_)
      refine An (fun hb220=>?_) (fun hb220=>?_)
      .refine Ad (Ca _ (Ab hc hr102c) A0 Gj) (fun r103 ⟨⟨hr1031,hr1032⟩,hr103c⟩=>?_)
       exact Ah ⟨⟨Bo,Bz⟩,(Ab hc hr103c)⟩
      .exact Ah ⟨⟨Bo,Bz⟩,(Ab hc hr102c)⟩
     .refine Ad (Cu _ _ _ _ _ _ _ A0 A0) (fun r104 ⟨hr1041,hr1042⟩=>?_)
      refine Ad (Az _ (Ab hc hr100c) A0) (fun r105 hr105c=>?_)
      refine An (fun hb226=>?_) (fun hb226=>?_)
      .refine Ad (Ca _ (Ab hc hr105c) A0 Gj) (fun r106 ⟨⟨hr1061,hr1062⟩,hr106c⟩=>?_)
       exact Ah ⟨⟨Bo,Bz⟩,(Ab hc hr106c)⟩
      .exact Ah ⟨⟨Bo,Bz⟩,(Ab hc hr105c)⟩
    .have hd214:=of_decide_eq_false hb214
     refine Ad (Az _ (Ab hc hr99c) A0) (fun r107 hr107c=>?_)
     refine An (fun hb232=>?_) (fun hb232=>?_)
     .refine Ad (Cu _ _ _ _ _ _ _ A0 A0) (fun r108 ⟨hr1081,hr1082⟩=>?_)
      refine Ad (Az _ (Ab hc hr107c) A0) (fun r109 hr109c=>?_)
      refine An (fun hb235=>?_) (fun hb235=>?_)
      .refine Ad (Ca _ (Ab hc hr109c) A0 Gj) (fun r110 ⟨⟨hr1101,hr1102⟩,hr110c⟩=>?_)
       exact Ah ⟨⟨Bo,Bz⟩,(Ab hc hr110c)⟩
      .exact Ah ⟨⟨Bo,Bz⟩,(Ab hc hr109c)⟩
     .refine Ad (Cu _ _ _ _ _ _ _ A0 A0) (fun r111 ⟨hr1111,hr1112⟩=>?_)
      refine Ad (Az _ (Ab hc hr107c) A0) (fun r112 hr112c=>?_)
      refine An (fun hb241=>?_) (fun hb241=>?_)
      .refine Ad (Ca _ (Ab hc hr112c) A0 Gj) (fun r113 ⟨⟨hr1131,hr1132⟩,hr113c⟩=>?_)
       exact Ah ⟨⟨Bo,Bz⟩,(Ab hc hr113c)⟩
      .exact Ah ⟨⟨Bo,Bz⟩,(Ab hc hr112c)⟩
   .refine Ad (C8 _ (-1) (5) (Ab hc hr97c) zq7 zq7) (fun r114 ⟨⟨hr1141,hr1142⟩,hr114c⟩=>?_)
    refine An (fun hb246=>?_) (fun hb246=>?_)
    .have hd246:=of_decide_eq_true hb246
     refine Ad (Az _ (Ab hc hr114c) A0) (fun r115 hr115c=>?_)
     refine An (fun hb249=>?_) (fun hb249=>?_)
     .refine Ad (Cu _ _ _ _ _ _ _ A0 A0) (fun r116 ⟨hr1161,hr1162⟩=>?_)
      refine Ad (Az _ (Ab hc hr115c) A0) (fun r117 hr117c=>?_)
      refine An (fun hb252=>?_) (fun hb252=>?_)
      .refine Ad (Ca _ (Ab hc hr117c) A0 Gj) (fun r118 ⟨⟨hr1181,hr1182⟩,hr118c⟩=>?_)
       exact Ah ⟨⟨Bo,Bz⟩,(Ab hc hr118c)⟩
      .exact Ah ⟨⟨Bo,Bz⟩,(Ab hc hr117c)⟩
     .refine Ad (Cu _ _ _ _ _ _ _ A0 A0) (fun r119 ⟨hr1191,hr1192⟩=>?_)
      refine Ad (Az _ (Ab hc hr115c) A0) (fun r120 hr120c=>?_)
      refine An (fun hb258=>?_) (fun hb258=>?_)
      .refine Ad (Ca _ (Ab hc hr120c) A0 Gj) (fun r121 ⟨⟨hr1211,hr1212⟩,hr121c⟩=>?_)
       exact Ah ⟨⟨Bo,Bz⟩,(Ab hc hr121c)⟩
      .exact Ah ⟨⟨Bo,Bz⟩,(Ab hc hr120c)⟩
    .have hd246:=of_decide_eq_false hb246
     refine Ad (Az _ (Ab hc hr114c) A0) (fun r122 hr122c=>?_)
     refine An (fun hb264=>?_) (fun hb264=>?_)
     .refine Ad (Cu _ _ _ _ _ _ _ A0 A0) (fun r123 ⟨hr1231,hr1232⟩=>?_)
      refine Ad (Az _ (Ab hc hr122c) A0) (fun r124 hr124c=>?_)
      refine An (fun hb267=>?_) (fun hb267=>?_)
      .refine Ad (Ca _ (Ab hc hr124c) A0 Gj) (fun r125 ⟨⟨hr1251,hr1252⟩,hr125c⟩=>?_)
       exact Ah ⟨⟨Bo,Bz⟩,(Ab hc hr125c)⟩
      .exact Ah ⟨⟨Bo,Bz⟩,(Ab hc hr124c)⟩
     .refine Ad (Cu _ _ _ _ _ _ _ A0 A0) (fun r126 ⟨hr1261,hr1262⟩=>?_)
      refine Ad (Az _ (Ab hc hr122c) A0) (fun r127 hr127c=>?_)
      refine An (fun hb273=>?_) (fun hb273=>?_)
      .refine Ad (Ca _ (Ab hc hr127c) A0 Gj) (fun r128 ⟨⟨hr1281,hr1282⟩,hr128c⟩=>?_)
       exact Ah ⟨⟨Bo,Bz⟩,(Ab hc hr128c)⟩
      .exact Ah ⟨⟨Bo,Bz⟩,(Ab hc hr127c)⟩
  .have hd208:=of_decide_eq_false hb208
   refine Ad (C8 _ (-1) (5) (Ab hc hr1c) zq7 zq7) (fun r129 ⟨⟨hr1291,hr1292⟩,hr129c⟩=>?_)
   refine An (fun hb279=>?_) (fun hb279=>?_)
   .have hd279:=of_decide_eq_true hb279
    refine Ad (Az _ (Ab hc hr129c) A0) (fun r130 hr130c=>?_)
    refine An (fun hb282=>?_) (fun hb282=>?_)
    .refine Ad (Cu _ _ _ _ _ _ _ A0 A0) (fun r131 ⟨hr1311,hr1312⟩=>?_)
     refine Ad (Az _ (Ab hc hr130c) A0) (fun r132 hr132c=>?_)
     refine An (fun hb285=>?_) (fun hb285=>?_)
     .refine Ad (Ca _ (Ab hc hr132c) A0 Gj) (fun r133 ⟨⟨hr1331,hr1332⟩,hr133c⟩=>?_)
      exact Ah ⟨⟨Bo,Bz⟩,(Ab hc hr133c)⟩
     .exact Ah ⟨⟨Bo,Bz⟩,(Ab hc hr132c)⟩
    .refine Ad (Cu _ _ _ _ _ _ _ A0 A0) (fun r134 ⟨hr1341,hr1342⟩=>?_)
     refine Ad (Az _ (Ab hc hr130c) A0) (fun r135 hr135c=>?_)
     refine An (fun hb291=>?_) (fun hb291=>?_)
     .refine Ad (Ca _ (Ab hc hr135c) A0 Gj) (fun r136 ⟨⟨hr1361,hr1362⟩,hr136c⟩=>?_)
      exact Ah ⟨⟨Bo,Bz⟩,(Ab hc hr136c)⟩
     .exact Ah ⟨⟨Bo,Bz⟩,(Ab hc hr135c)⟩
   .have hd279:=of_decide_eq_false hb279
    refine Ad (Az _ (Ab hc hr129c) A0) (fun r137 hr137c=>?_)
    refine An (fun hb297=>?_) (fun hb297=>?_)
    .refine Ad (Cu _ _ _ _ _ _ _ A0 A0) (fun r138 ⟨hr1381,hr1382⟩=>?_)
     refine Ad (Az _ (Ab hc hr137c) A0) (fun r139 hr139c=>?_)
     refine An (fun hb300=>?_) (fun hb300=>?_)
     .refine Ad (Ca _ (Ab hc hr139c) A0 Gj) (fun r140 ⟨⟨hr1401,hr1402⟩,hr140c⟩=>?_)
      exact Ah ⟨⟨Bo,Bz⟩,(Ab hc hr140c)⟩
     .exact Ah ⟨⟨Bo,Bz⟩,(Ab hc hr139c)⟩
    .refine Ad (Cu _ _ _ _ _ _ _ A0 A0) (fun r141 ⟨hr1411,hr1412⟩=>?_)
     refine Ad (Az _ (Ab hc hr137c) A0) (fun r142 hr142c=>?_)
     refine An (fun hb306=>?_) (fun hb306=>?_)
     .refine Ad (Ca _ (Ab hc hr142c) A0 Gj) (fun r143 ⟨⟨hr1431,hr1432⟩,hr143c⟩=>?_)
      exact Ah ⟨⟨Bo,Bz⟩,(Ab hc hr143c)⟩
     .exact Ah ⟨⟨Bo,Bz⟩,(Ab hc hr142c)⟩
theorem Bmy (b:List YB) (n:Int):Uu (b,()) (n,())=some (Aer b n,()):=by
 unfold Uu Ake Aer
 simp only[Af,Aa]
 cases ((b.length:Int)==0)<;>rfl
theorem Bs7 (x y:Bool):br x (some (y,())) (some (false,()))=some (x && y,()):=by cases x<;>rfl
theorem Boy (n:Ax):Aqb n=some (Ji n,()):=by
 unfold Aqb App Ji
 simp only[Af,Ag,Aa,Cd,Bmy,Hs,Ae,Bs7]
theorem Bmz (l:List Ax) (h:H1 l) (hl:l.length<=4294967296):Akq (l,())=some (true,()):=by
 have e:=Ct (B:=Mb) l.length (fun i=>(l,(i:Int),())) (.inr ())
  (fun i hi=>by
   have hx:=List.getElem?_eq_getElem hi
   unfold Mb
   simp only[Af,Ag,Aa,Dm hi,A9,B9 hx,Ae,Boy,h _ (List.getElem_mem hi),Bool.not_true,Ao]
   rw[w64 zq0]
   rfl)
  (by unfold Mb;simp only[Af,Aa,Dn,Ao])
 unfold Akq Akf
 simp only[Af,Ag,Aa,E8]
 rw[show Ay Mb (l,(0:Int),())=_ from e]
 rfl
def SP (N:Nat) (s:Ak):Prop:=A5 s<=N/\wfB s.2.2.1/\wfB (Cm s).2.1
theorem Aee (s:Ak):A5 s=s.2.1.length+s.2.2.1.length+A7 (Cm s)+Bd (Bm s):=by
 simp only[A5,A7,Cm,Bd,Bm];omega
theorem A36 {N A B C D:Nat} {i:Int} {cn sn:List YB} {c0:Int} {c1:List YB} {c2:Int} {c3:List YB} {c4 c5:Int} {c6:List YI} {c7:Int} {c8:List YB} {c9 c10:Int} {c11:List YI} {c12:Bool} {c13:Int} {c14:List YB} {p0 p1:Int} {p2:List A8} {t la:Int} {dd:Bool}
  (h1:cn.length<=A) (h2:sn.length<=B) (h3:A7 (c0,c1,c2,c3,c4,c5,c6,c7,c8,c9,c10,c11,c12,c13,c14,())<=C) (h4:Bd (p0,p1,p2,())<=D) (w1:wfB sn) (w2:wfB c1) (h:A+B+C+D<=N):
  SP N (i,cn,sn,c0,c1,c2,c3,c4,c5,c6,c7,c8,c9,c10,c11,c12,c13,c14,p0,p1,p2,t,la,dd,()):=by
 refine⟨?_,w1,w2⟩
 rw[Aee]
 have e3:A7 (Cm ((i,cn,sn,c0,c1,c2,c3,c4,c5,c6,c7,c8,c9,c10,c11,c12,c13,c14,p0,p1,p2,t,la,dd,()):Ak))<=C:=h3
 have e4:Bd (Bm ((i,cn,sn,c0,c1,c2,c3,c4,c5,c6,c7,c8,c9,c10,c11,c12,c13,c14,p0,p1,p2,t,la,dd,()):Ak))<=D:=h4
 dsimp only
 omega
theorem Bde {N:Nat} {s:Ak} (h:SP N s):s.2.1.length<=N/\s.2.2.1.length<=N/\A7 (Cm s)<=N/\Bd (Bm s)<=N:=by
 have:=Aee s
 have:=h.1
 omega
theorem Avr (a:A6):Tot (fun r=>Bd r<=0) (Li a):=Ah (by simp[Bd,Bu])
theorem Bm0 (p:Bn) (n:YI) (a:A6) (d:YBs) (h:Bd p<=100000):Tot (fun r=>Bd r.1<=Bd p+50) (Eo p n a d):=by
 obtain⟨p',b,_,h2,_,h4,_⟩:=Iy p n a d zq0
 rw[h2];exact Ah h4
theorem Ay9 {b:List YB} {a0:Aw} (hc:Bv b a0):Tot (fun r=>Bd r.1<=250/\Bv b r.2) (Qn a0):=by
 unfold Qn Aa4
 simp only[Af,Ag,Aa,Aj]
 refine Ad (Bf _ hc zq7) (fun r1 ⟨_,h1c⟩=>?_)
 refine Ad (Pg _) (fun r2 _=>?_)
 refine Ad (Avr _) (fun r3 h3=>?_)
 refine Ad (Bf _ (Ab hc h1c) zq7) (fun r4 ⟨⟨h4,h4b⟩,h4c⟩=>?_)
 refine Ad (Bf _ (Ab hc h4c) zq7) (fun r5 ⟨⟨h5,h5b⟩,h5c⟩=>?_)
 dsimp only at h4b h5b
 refine Ad (Q:=fun o:(List YB)×Int×Int×Int×Int×(List A8)×Int×Int×(List A8)×Unit=>Bd (o.2.2.2.2.2.2.1,o.2.2.2.2.2.2.2.1,o.2.2.2.2.2.2.2.2.1,())<=250/\Bv b (o.1,o.2.1,o.2.2.1,())) ?_ (fun o ho=>Ah ho)
 refine Tn (fun j d=>d.2.1=r5.1.1-(j:Int)/\Bd (d.2.2.2.2.2.2.2.2.1,d.2.2.2.2.2.2.2.2.2.1,d.2.2.2.2.2.2.2.2.2.2.1,())<=50*j/\Bv b (d.2.2.1,d.2.2.2.1,d.2.2.2.2.1,())) _ 5 ?_ ⟨by simp,by have:Bd (r3.1,r3.2.1,r3.2.2.1,())<=0:=h3;dsimp only;omega,Ab hc h5c⟩
 rintro j ⟨m,i,c1,c2,c3,x1,x2,x3,p1,p2,p3,⟨⟩⟩ hj ⟨g1,g2,g3⟩
 dsimp only at g1 g2 g3
 unfold U9
 simp only[Af,Ag,Aa,Aj]
 refine An (fun h=>?_) (fun h=>Ah (.inr ⟨_,rfl,by dsimp only;omega,g3⟩))
 have h:=of_decide_eq_true h
 refine Ad (Bf _ g3 zq7) (fun r7 ⟨_,h7c⟩=>?_)
 refine Ad (Pg _) (fun r8 _=>?_)
 refine Ad (C0 _ (Ab g3 h7c) zq7) (fun r9 ⟨_,h9c⟩=>?_)
 refine Ad (Bm0 _ _ _ _ zq0) (fun r10 h10=>?_)
 refine Ad (Bf _ (Ab g3 h9c) zq7) (fun r11 ⟨_,h11c⟩=>?_)
 refine Ah (.inl ⟨_,rfl,by omega,?_,?_,by have:=Ab g3 h11c;exact this⟩)
 .dsimp only;rw[w64 zq0];omega
 .have:Bd (r10.1.1,r10.1.2.1,r10.1.2.2.1,())<=50*j+50:=Nat.le_trans h10 zq0
  dsimp only;omega
theorem Bdf (p:YBs) (id:YI) (f:Ar) (h:Aq f<=1000):Tot (fun r=>Aq r.1<=Aq f+100/\(wfB f.2.2.2.1->wfB r.1.2.2.2.1)) (He p id f):=by
 unfold He Rg
 simp only[Af,Ag,Aa,Aj]
 rw[Jd,Ae]
 refine An (fun _=>Ah ⟨by simp[Aq],fun _=>Gw⟩) (fun _=>?_)
 refine An (fun _=>Ah ⟨by simp[Aq],fun _=>Gw⟩) (fun _=>?_)
 have hp:=A8l p.1 id.1 f.2.2.1 f.2.2.2.1 f.2.2.2.2.1 f.2.2.2.2.2.1
 rw[show Ab7 p id (f.2.2.1,()) (f.2.2.2.1,()) (f.2.2.2.2.1,()) (f.2.2.2.2.2.1,())=_ from A6b p.1 id.1 _ _ _ _,Ae]
 refine An (fun _=>Ah ⟨by simp[Aq],fun _=>Gw⟩) (fun _=>?_)
 rw[Aqu _ zq0,Ae]
 simp only[Aq]at h
 exact Ah ⟨by simp only[Aq,List.length_nil];omega,fun h=>h⟩
theorem Bf8 (p:YBs) (n:YI) (a:A6) (f:Ar) (h:Aq f<=500) (hw:wfB f.2.2.2.1):Tot (SP 1200) (Ks p n a f):=by
 have zero:Tot (SP 1200) (some ((0,[],[],0,[],0,[],0,0,[],0,[],0,0,[],false,0,[],0,0,[],0,0,false,()):Ak)):=Ah ⟨by simp[A5,Bu],Gw,Gw⟩
 have hcn:f.2.2.1.length<=Aq f:=by simp only[Aq];omega
 have hsn:f.2.2.2.1.length<=Aq f:=by simp only[Aq];omega
 unfold Ks Qg
 simp only[Af,Ag,Aa,Aj,List.length_nil,List.nil_append,Nat.zero_add]
 refine Ad (Bmx _) (fun _ _=>An (fun _=>zero) (fun _=>?_))
 rw[Cq,Ae]
 refine An (fun _=>zero) (fun _=>?_)
 refine Ad (Bj1 _) (fun _ _=>An (fun _=>zero) (fun _=>?_))
 rw[Jd,Ae]
 refine An (fun _=>zero) (fun _=>An (fun _=>zero) (fun _=>?_))
 refine Ej (Al zq0) (Ej (Al zq0) ?_)
 obtain⟨p,⟨⟩⟩:=p
 rw[Aec,Ae]
 refine Ad (Ay8 _ _ _ zq2) (fun r6 ⟨h6,h6w⟩=>?_)
 refine Ad (Avr _) (fun r7 h7=>?_)
 exact Ah (A36 (A:=500) (B:=500) (C:=100) (D:=0) zq0 zq0 h6 h7 hw (h6w hw) zq7)
theorem Aza {b:List YB} {a0:Aw} (hc:Bv b a0):Tot (fun r=>SP 4500 r.1/\Bv b r.2) (Un a0):=by
 unfold Un Aa5
 simp only[Af,Ag,Aa,Aj]
 refine Ad (C0 _ hc zq7) (fun r1 ⟨_,h1c⟩=>?_)
 refine Ad (Bf _ (Ab hc h1c) zq7) (fun r2 ⟨_,h2c⟩=>?_)
 refine Ad (Bab (Ab hc h2c)) (fun r3 ⟨⟨h3,h3w⟩,h3c⟩=>?_)
 refine Ad (Q:=fun q=>Aq q.1<=500/\wfB q.1.2.2.2.1) ?_ (fun r4 ⟨h4,h4w⟩=>?_)
 .refine(Bdf _ _ _ zq0).mono (fun q hq=>⟨?_,hq.2 h3w⟩)
  exact Nat.le_trans hq.1 zq0
 refine Ad (C0 _ (Ab hc h3c) zq7) (fun r5 ⟨_,h5c⟩=>?_)
 refine Ad (C8 _ 0 90 (Ab hc h5c) zq7 zq7) (fun r6 ⟨_,h6c⟩=>?_)
 refine Ad (Bf _ (Ab hc h6c) zq7) (fun r7 ⟨_,h7c⟩=>?_)
 refine Ad (Pg _) (fun r8 _=>?_)
 refine Ad (Bf8 _ _ _ _ h4 h4w) (fun r9 h9=>?_)
 obtain⟨k1,k2,k3,k4⟩:=Bde h9
 refine Ad (Az _ (Ab hc h7c) zq7) (fun r10 h10c=>?_)
 refine An (fun _=>?_) (fun _=>?_)
 .refine Ad (Bf7 _ (Ab hc h10c)) (fun r11 ⟨⟨h11,h11w⟩,h11c⟩=>?_)
  have h11s:r11.1.2.1.length<=400:=Nat.le_trans (by simp only[A7];omega) h11
  refine Ad (Az _ (Ab hc h11c) zq7) (fun r12 h12c=>?_)
  refine An (fun _=>?_) (fun _=>?_)
  .refine Ad (Ay9 (Ab hc h12c)) (fun r13 ⟨h13,h13c⟩=>?_)
   exact Ah ⟨A36 k1 h11s h11 h13 h11w h11w zq7,Ab hc h13c⟩
  .exact Ah ⟨A36 k1 h11s h11 k4 h11w h11w zq7,Ab hc h12c⟩
 .refine Ad (Az _ (Ab hc h10c) zq7) (fun r14 h14c=>?_)
  refine An (fun _=>?_) (fun _=>?_)
  .refine Ad (Ay9 (Ab hc h14c)) (fun r15 ⟨h15,h15c⟩=>?_)
   exact Ah ⟨A36 k1 k2 k3 h15 h9.2.1 h9.2.2 zq7,Ab hc h15c⟩
  .exact Ah ⟨⟨Nat.le_trans h9.1 zq7,h9.2⟩,Ab hc h14c⟩
theorem A8n {N:Nat} (s:Ak) (h:SP N s) (hN:N<=100000):Tot (SP N) (Zx s):=by
 have h1:=h.1
 have k:=Bde h
 unfold Zx An1
 simp only[Af,Ag,Aa,Aj,List.length_nil,List.nil_append,Nat.zero_add]
 rw[Aab s zq0,Ae]
 refine An (fun _=>?_) (fun _=>?_)
 .rw[Acd s zq0,Ae];exact Ah h
 refine Ej (Al zq0) (Ej (Al zq0) (Ah ?_))
 have:=Aee s
 exact A36 (A:=s.2.1.length) (B:=s.2.2.1.length) (C:=0) (D:=0) (Nat.le_refl _) (Nat.le_refl _) (by simp[A7]) (by simp[Bd,Bu]) h.2.1 Gw zq0
theorem Bm1 (l:(List YI)×Unit) (hl:l.1.length<=1000):Tot (fun r=>Ip r=true) (Ab8 l):=by
 unfold Ab8 Ahx
 simp only[Af,Ag,Aa,Aj]
 rw[Ag2,Ag3]
 simp only[Ae]
 refine Ad (Q:=fun o:Int×(List YI)×Int×(List YI)×Unit=>Ip (o.2.2.1,o.2.2.2.1,())=true) ?_ (fun o ho=>Ah ho)
 refine Tn (fun i d=>d.1=l.1/\d.2.1=(i:Int)/\d.2.2.2.2.2.1.length=32/\Ip (d.2.2.2.2.1,d.2.2.2.2.2.1,())=true) _ l.1.length ?_ ⟨rfl,rfl,by simp[Ace],Avj⟩
 rintro i ⟨m,k,a1,a2,a3,a4,⟨⟩⟩ hi ⟨g1,g2,g3,g4⟩
 dsimp only at g1 g2 g3 g4
 subst g1 g2
 unfold Uc
 simp only[Af,Ag,Aa,Aj]
 refine An (fun h=>?_) (fun h=>Ah (.inr ⟨_,rfl,g4⟩))
 have h:=of_decide_eq_true h
 refine Ad (E7 (P:=fun _=>True) zq0 h (fun _ _=>trivial)) (fun e _=>?_)
 have hn:=Ak1 (a3,a4,()) e.1
 simp only[Hr]at hn
 have e0:IntKind.i64.wrap ((i:Int)+1)=((i+1:Nat):Int):=by rw[w64 zq0];omega
 rw[A01 (a3,a4,()) e zq2]
 cases hm:Jg (a3,a4,()) e.1 with
 |false=>exact Ah (.inl ⟨_,rfl,by omega,rfl,e0,g3,g4⟩)
 |true=>exact Ah (.inl ⟨_,rfl,by omega,rfl,e0,by show(J7 (a3,a4,()) e.1).2.1.length=32;omega,A8i hm⟩)
theorem Bj3 {b:List YB} {a0:Aw} (hc:Bv b a0):Tot (fun r=>Ip r.1=true/\Bv b r.2) (Xj a0):=by
 unfold Xj Adp
 simp only[Af,Ag,Aa,Aj]
 refine Ad (A35 _ hc zq7) (fun r1 ⟨h1,h1c⟩=>?_)
 exact Ad (Bm1 _ h1) (fun r2 h2=>Ah ⟨h2,Ab hc h1c⟩)
theorem Bhn {n:Int} {k:List YB} {s t:Int} {w:List YI} (h1:0<=n/\n<=4294967295) (h2:k.length=32) (h3:0<=s/\s<=281474976710656) (h4:Ip (t,w,())=true):Fv (n,k,s,t,w,())=true:=by
 unfold Fv
 rw[h4,Bj.2 h1,Bj.2 h3]
 simp[h2]
theorem Bj4 {sn:List YB} {e:YEp} (h1:sn.length=12) (h2:Fv e=true):Ci (1,sn,e.1,e.2.1,e.2.2.1,e.2.2.2.1,e.2.2.2.2.1,0,[],0,0,[],false,0,[],())=true:=by
 have e1:((sn.length:Int)==12)=true:=by simp[h1]
 have e2:Fv (Lq ((1,sn,e.1,e.2.1,e.2.2.1,e.2.2.2.1,e.2.2.2.2.1,0,[],0,0,[],false,0,[],()):Ap))=true:=h2
 have e3:Lr ((1,sn,e.1,e.2.1,e.2.2.1,e.2.2.2.1,e.2.2.2.2.1,0,[],0,0,[],false,0,[],()):Ap)=true:=rfl
 unfold Ci
 rw[e2,e3]
 simp[h1,J6]
theorem Boz {sn:List YB} {e o:YEp} {u:Int} (h1:sn.length=12) (h2:Fv e=true) (h3:Fv o=true) (h4:o.1=IntKind.i64.wrap (e.1-1)) (h5:(0<=u/\u<=1000005)\/u= -1):Ci (1,sn,e.1,e.2.1,e.2.2.1,e.2.2.2.1,e.2.2.2.2.1,o.1,o.2.1,o.2.2.1,o.2.2.2.1,o.2.2.2.2.1,true,u,[],())=true:=by
 have e1:((sn.length:Int)==12)=true:=by simp[h1]
 have e2:Fv (Lq ((1,sn,e.1,e.2.1,e.2.2.1,e.2.2.2.1,e.2.2.2.2.1,o.1,o.2.1,o.2.2.1,o.2.2.2.1,o.2.2.2.2.1,true,u,[],()):Ap))=true:=h2
 have e3:Lr ((1,sn,e.1,e.2.1,e.2.2.1,e.2.2.2.1,e.2.2.2.2.1,o.1,o.2.1,o.2.2.1,o.2.2.2.1,o.2.2.2.2.1,true,u,[],()):Ap)=true:=by
  unfold Lr
  have q1:Fv (Vi ((1,sn,e.1,e.2.1,e.2.2.1,e.2.2.2.1,e.2.2.2.2.1,o.1,o.2.1,o.2.2.1,o.2.2.2.1,o.2.2.2.2.1,true,u,[],()):Ap))=true:=h3
  rw[q1]
  show(true && (!(o.1 != IntKind.i64.wrap (e.1-1)) && (inR u 0 1000005 || ((u== -1) && true))))=true
  rw[h4]
  rcases h5 with h5|h5
  .rw[Bj.2 h5];simp
  .rw[h5];simp
 unfold Ci
 rw[e2,e3]
 simp[h1,J6]
theorem Bdg {b:List YB} {a0:Aw} (hc:Bv b a0):Tot (fun r=>(Ci r.1=true/\r.1.1=1)/\Bv b r.2) (Um a0 ((1:Int),())):=by
 unfold Um Aa2
 simp only[Af,Ag,Aa,Aj,show((1:Int)==(0:Int))=false from rfl,Ao]
 refine Ad (C0 _ hc zq7) (fun r1 ⟨⟨h1,_⟩,h1c⟩=>?_)
 refine Ad (C0 _ (Ab hc h1c) zq7) (fun r2 ⟨⟨h2,_⟩,h2c⟩=>?_)
 have h1:r1.1.1.length=12:=h1
 have h2:r2.1.1.length=32:=h2
 rw[show Hf ((1:Int),()) r1.1 r2.1=some (Aqw 1 r1.1.1 r2.1.1)from(Ak4 1 r1.1.1 r2.1.1 (.inr rfl) h1 h2).2,Ae]
 refine Ad (C8 _ 0 281474976710656 (Ab hc h2c) zq7 zq7) (fun r4 ⟨h4,h4c⟩=>?_)
 have hd:(Gg r2.1.1 Qb).length=32:=Ais zq7 zq0
 have fin: ∀(c:Aw) (t:Int) (w:List YI),Bv b c->c.1=a0.1->Ip (t,w,())=true->
   (Tot (fun r:Ap×Aw=>(Ci r.1=true/\r.1.1=1)/\Bv b r.2) (ob (Av c ((2:Int),())) fun r7=>br r7.1.1 (ob (Cb (a0.1,r7.2.2.1,r7.2.2.2.1,()) ([((1:Int),()),((1:Int),()),((2:Int),()),((4294967295:Int),())],())) fun r8=>
    ob (Dp (r2.1.1,()) ((Da [114,101,107,101,121]),())) fun r9=>ob (Fm r8.1 r9) fun r10=>ob (Cb (a0.1,r8.2.2.1,r8.2.2.2.1,()) ([((-1:Int),()),((0:Int),()),((5:Int),()),((7:Int),()),((1000005:Int),())],())) fun r11=>
    some ((1,r1.1.1,r10.1,r10.2.1,r10.2.2.1,r10.2.2.2.1,r10.2.2.2.2.1,(IntKind.i64.wrap (r10.1-(1:Int))),r2.1.1,r4.1.1,t,w,true,r11.1.1,[],()),(a0.1,r11.2.2.1,r11.2.2.2.1,())))
    (some ((1,r1.1.1,0,r2.1.1,r4.1.1,t,w,0,[],0,0,[],false,0,[],()),(a0.1,r7.2.2.1,r7.2.2.2.1,()))))):=fun c t w hcc e hw=>by
  refine Ad (Az _ hcc zq7) (fun r7 h7c=>?_)
  refine An (fun _=>?_) (fun _=>Ah ⟨⟨Bj4 (e:=(0,r2.1.1,r4.1.1,t,w,())) h1 (Bhn zq7 h2 h4 hw),rfl⟩,Ab hc h7c⟩)
  refine Ad (C8 _ 1 4294967295 (Ab hc h7c) zq7 zq7) (fun r8 ⟨h8,h8c⟩=>?_)
  rw[show Dp (r2.1.1,()) (Da [114,101,107,101,121],())=_ from Aip r2.1.1,Ae]
  rw[show Fm r8.1 (Gg r2.1.1 Qb,())=some (Ag5 r8.1.1 (Gg r2.1.1 Qb))from(Avl r8.1.1 _ zq0 hd).2,Ae]
  refine Ad (C8 _ (-1) 1000005 (Ab hc h8c) zq7 zq7) (fun r11 ⟨h11,h11c⟩=>?_)
  refine Ah ⟨⟨Boz (e:=Ag5 r8.1.1 (Gg r2.1.1 Qb)) (o:=(IntKind.i64.wrap (r8.1.1-1),r2.1.1,r4.1.1,t,w,())) h1 (Avk zq0 hd) (Bhn ?_ h2 h4 hw) rfl zq0,rfl⟩,Ab hc h11c⟩
  rw[w64 zq0];omega
 refine Ad (Az _ (Ab hc h4c) zq7) (fun r5 h5c=>?_)
 refine An (fun _=>?_) (fun _=>?_)
 .exact Ad (Bj3 (Ab hc h5c)) (fun r6 ⟨h6,h6c⟩=>fin _ _ _ (Ab hc h6c) rfl h6)
 .exact fin _ _ _ (Ab hc h5c) rfl Avj
theorem Bho (n:YI):Tot (fun r=>Ck r=true) (Ic n):=by
 unfold Ic Ae1
 simp only[Af,Ag,Aa,Aj]
 rw[Cq,Ae]
 dsimp only
 cases h:inR n.1 0 255 with
 |false=>exact Ah rfl
 |true=>
  have:=Bj.1 h
  refine Ah ?_
  unfold Ck
  rw[w64 (n:=167772160+n.1) zq0,w64 (n:=7000+n.1) zq0]
  simp only[Bool.and_eq_true,Bj]
  omega
theorem Azb {b:List YB} {a0:Aw} (hc:Bv b a0):Tot (fun r=>D7 r.1=true/\Bv b r.2) (Qn a0):=by
 unfold Qn Aa4
 simp only[Af,Ag,Aa,Aj]
 refine Ad (Bf _ hc zq7) (fun r1 ⟨_,h1c⟩=>?_)
 refine Ad (Bho _) (fun r2 h2=>?_)
 rw[show Li r2=some (r2.1,r2.2.1,[],())from rfl,Ae]
 refine Ad (Bf _ (Ab hc h1c) zq7) (fun r4 ⟨⟨h4,h4b⟩,h4c⟩=>?_)
 refine Ad (Bf _ (Ab hc h4c) zq7) (fun r5 ⟨⟨h5,h5b⟩,h5c⟩=>?_)
 dsimp only at h4b h5b
 refine Ad (Q:=fun o:(List YB)×Int×Int×Int×Int×(List A8)×Int×Int×(List A8)×Unit=>D7 (o.2.2.2.2.2.2.1,o.2.2.2.2.2.2.2.1,o.2.2.2.2.2.2.2.2.1,())=true/\Bv b (o.1,o.2.1,o.2.2.1,())) ?_ (fun o ho=>Ah ho)
 refine Tn (fun j d=>d.2.1=r5.1.1-(j:Int)/\(D7 (d.2.2.2.2.2.2.2.2.1,d.2.2.2.2.2.2.2.2.2.1,d.2.2.2.2.2.2.2.2.2.2.1,())=true/\Bd (d.2.2.2.2.2.2.2.2.1,d.2.2.2.2.2.2.2.2.2.1,d.2.2.2.2.2.2.2.2.2.2.1,())<=50*j)/\Bv b (d.2.2.1,d.2.2.2.1,d.2.2.2.2.1,())) _ 5 ?_ ⟨by simp,⟨H5.2 ⟨h2,by simp,(fun x hx=>by cases hx),List.Pairwise.nil⟩,by simp[Bd,Bu]⟩,Ab hc h5c⟩
 rintro j ⟨m,i,c1,c2,c3,x1,x2,x3,p1,p2,p3,⟨⟩⟩ hj ⟨g1,⟨g2,g2n⟩,g3⟩
 dsimp only at g1 g2 g2n g3
 unfold U9
 simp only[Af,Ag,Aa,Aj]
 refine An (fun h=>?_) (fun h=>Ah (.inr ⟨_,rfl,g2,g3⟩))
 have h:=of_decide_eq_true h
 refine Ad (Bf _ g3 zq7) (fun r7 ⟨_,h7c⟩=>?_)
 refine Ad (Pg _) (fun r8 _=>?_)
 refine Ad (C0 _ (Ab g3 h7c) zq7) (fun r9 ⟨_,h9c⟩=>?_)
 obtain⟨p',ok,_,o2,o3,o4,o5⟩:=Iy (p1,p2,p3,()) (m,()) r8 r9.1 zq0
 have hp':D7 p'=true:=by
  cases ok with
  |false=>rw[o3 rfl];exact g2
  |true=>exact(o5 rfl).2
 rw[o2,Ae]
 refine Ad (Bf _ (Ab g3 h9c) zq7) (fun r11 ⟨_,h11c⟩=>?_)
 refine Ah (.inl ⟨_,rfl,by omega,?_,⟨hp',?_⟩,by have:=Ab g3 h11c;exact this⟩)
 .dsimp only;rw[w64 zq0];omega
 .have:Bd (p'.1,p'.2.1,p'.2.2.1,())<=50*j+50:=Nat.le_trans o4 zq0
  dsimp only;omega
theorem Tot.both {α:Type} {P Q:α->Prop} {o:Option α} (h:Tot P o) (k:Tot Q o):Tot (fun a=>P a/\Q a) o:=by
 obtain⟨a,rfl,p⟩:=h
 obtain⟨c,e,q⟩:=k
 cases e
 exact⟨a,rfl,p,q⟩
theorem Sf {i:Int} {cn sn:List YB} {c0:Int} {c1:List YB} {c2:Int} {c3:List YB} {c4 c5:Int} {c6:List YI} {c7:Int} {c8:List YB} {c9 c10:Int} {c11:List YI} {c12:Bool} {c13:Int} {c14:List YB} {p0 p1:Int} {p2:List A8} {t la:Int}
  (h1:1<=i/\i<=9) (h2:cn.length=12) (h3:sn.length=12) (h4:Ci (c0,c1,c2,c3,c4,c5,c6,c7,c8,c9,c10,c11,c12,c13,c14,())=true) (h5:c0=1) (h6:Dz c1 sn=true) (h7:D7 (p0,p1,p2,())=true) (h8:0<=t/\t<=1000000) (h9:0<=la/\la<=1000000):
  Cs (i,cn,sn,c0,c1,c2,c3,c4,c5,c6,c7,c8,c9,c10,c11,c12,c13,c14,p0,p1,p2,t,la,false,())=true:=by
 unfold Cs
 dsimp only[Cm,Bm,Au7,Xu,C4]
 rw[h4,h7,Bj.2 h1,Bj.2 h8,Bj.2 h9,h6,h5,h2,h3]
 rfl
theorem Tp {s:Ak} (h:Cs s=true) (hd:C4 s=false):(1<=s.1/\s.1<=9)/\s.2.1.length=12/\s.2.2.1.length=12/\(0<=Au7 s/\Au7 s<=1000000)/\Ci (Cm s)=true/\s.2.2.2.1=1/\Dz s.2.2.2.2.1 s.2.2.1=true/\D7 (Bm s)=true/\(0<=Xu s/\Xu s<=1000000):=by
 unfold Cs at h
 rw[hd]at h
 simp only[cond_false,Bool.and_eq_true,Bj,beq_iff_eq]at h
 obtain⟨h1,h2,h3,h4,h5,h6,h7,h8,h9⟩:=h
 exact⟨h1,by omega,by omega,h4,h5,h6,h7,h8,h9⟩
theorem Bac {b:List YB} {a0:Aw} (hc:Bv b a0):Tot (fun r=>(B7 r.1=true/\r.1.1=2)/\Bv b r.2) (P0 a0):=by
 unfold P0 U8
 simp only[Af,Ag,Aa,Aj]
 refine Ad (C0 _ hc zq7) (fun r1 ⟨⟨h1,_⟩,h1c⟩=>?_)
 refine Ad (C0 _ (Ab hc h1c) zq7) (fun r2 ⟨⟨h2,_⟩,h2c⟩=>?_)
 refine Ad (Bf _ (Ab hc h2c) zq7) (fun r3 ⟨h3,h3c⟩=>?_)
 refine Ad (C0 _ (Ab hc h3c) zq7) (fun r4 ⟨⟨h4,_⟩,h4c⟩=>?_)
 refine Ah ⟨⟨?_,rfl⟩,Ab hc h4c⟩
 have h1:r1.1.1.length=12:=h1
 have h2:r2.1.1.length=12:=h2
 have h4:r4.1.1.length=16:=h4
 dsimp only at h3
 have h3':inR r3.1.1 0 1000000=true:=Bj.2 zq0
 unfold B7
 simp[h1,h2,h4,h3',show inR 2 4 8=false by decide]
theorem Bf9 (p:List YB) (n:YI) (a:A6) (f:Ar) (hp:G7 (p,())=true) (hn:0<=n.1/\n.1<=1000000) (ha:Ck a=true) (hf:B7 f=true) (hk:f.1=3) (hi:1<=f.2.1/\f.2.1<=9) (hc:f.2.2.1.length=12) (hs:f.2.2.2.1.length=12) (ht:0<=f.2.2.2.2.1/\f.2.2.2.2.1<=1000000):Tot (fun s=>Cs s=true/\C4 s=false) (Ks (p,()) n a f):=by
 have hek:=Avo (p:=p) hp hc hs
 unfold Ks Qg
 simp only[Af,Ag,Aa,Aj,List.length_nil,List.nil_append,Nat.zero_add]
 rw[Aai,Ae,hp,Cq,Iv,Jd]
 simp only[Ae,Bool.not_true,Ao]
 rw[Bj.2 hn,ha,hf,show(f.1 != (3:Int))=false by simp[hk]]
 simp only[Bool.not_true,Ao]
 rw[Al zq0,Al zq0,Ba,Ba,Aec,Ae,show Hf ((1:Int),()) (f.2.2.2.1,()) (Lo p f.2.2.1 f.2.2.2.1 0,())=_ from(Ak4 1 f.2.2.2.1 _ (.inr rfl) hs hek).2,Ae,show Li a=some (a.1,a.2.1,[],())from rfl,Ae]
 exact Ah ⟨Sf hi hc hs (Ay5 (.inr rfl) hs hek) rfl (Kk _) (H5.2 ⟨ha,by simp,(fun x hx=>by cases hx),List.Pairwise.nil⟩) ht hn,rfl⟩
theorem Bga {b:List YB} {a0:Aw} (hc:Bv b a0):Tot (fun r=>(Cs r.1=true/\C4 r.1=false)/\Bv b r.2) (Un a0):=by
 unfold Un Aa5
 simp only[Af,Ag,Aa,Aj]
 refine Ad (C0 _ hc zq7) (fun r1 ⟨⟨h1,_⟩,h1c⟩=>?_)
 refine Ad (Bf _ (Ab hc h1c) zq7) (fun r2 ⟨⟨h2,h2b⟩,h2c⟩=>?_)
 dsimp only at h2b
 refine Ad (Bac (Ab hc h2c)) (fun r3 ⟨⟨h3,h3k⟩,h3c⟩=>?_)
 obtain⟨a1,a2,a3,_⟩:=Avn h3 h3k
 have hw:IntKind.i64.wrap ((1:Int)+r2.1.1)=1+r2.1.1:=w64 zq0
 have h1:r1.1.1.length=16:=h1
 obtain⟨_,g2,g3⟩:=Baa r1.1.1 (1+r2.1.1) r3.1 (by unfold G7;rw[Bj];dsimp only;omega) zq0 h3 h3k
 rw[hw,show He r1.1 (1+r2.1.1,()) r3.1=_ from g2,Ae]
 refine Ad (C0 _ (Ab hc h3c) zq7) (fun r5 ⟨⟨h5,_⟩,h5c⟩=>?_)
 have h5:r5.1.1.length=16:=h5
 refine Ad (C8 _ 0 90 (Ab hc h5c) zq7 zq7) (fun r6 ⟨h6,h6c⟩=>?_)
 refine Ad (Bf _ (Ab hc h6c) zq7) (fun r7 ⟨_,h7c⟩=>?_)
 refine Ad (Bho _) (fun r8 h8=>?_)
 refine Ad (Bf9 r5.1.1 r6.1 r8 _ (by unfold G7;rw[Bj];dsimp only;omega) zq0 h8 g3 rfl (by show 1<=1+r2.1.1/\1+r2.1.1<=9;omega) a1 a2 a3) (fun r9 ⟨h9,h9d⟩=>?_)
 obtain⟨q1,q2,q3,q4,q5,q6,q7,q8,q9⟩:=Tp h9 h9d
 have hd:r9.2.2.2.2.2.2.2.2.2.2.2.2.2.2.2.2.2.2.2.2.2.2.2.1=false:=h9d
 refine Ad (Az _ (Ab hc h7c) zq7) (fun r10 h10c=>?_)
 refine An (fun _=>?_) (fun _=>?_)
 .refine Ad (Bdg (Ab hc h10c)) (fun r11 ⟨⟨h11,h11r⟩,h11c⟩=>?_)
  have h11s:r11.1.2.1.length=12:=(Hh h11).2.1
  refine Ad (Az _ (Ab hc h11c) zq7) (fun r12 h12c=>?_)
  refine An (fun _=>?_) (fun _=>?_)
  .refine Ad (Azb (Ab hc h12c)) (fun r13 ⟨h13,h13c⟩=>?_)
   rw[hd]
   exact Ah ⟨⟨Sf q1 q2 h11s h11 h11r (Kk _) h13 q4 q9,rfl⟩,Ab hc h13c⟩
  .rw[hd]
   exact Ah ⟨⟨Sf q1 q2 h11s h11 h11r (Kk _) q8 q4 q9,rfl⟩,Ab hc h12c⟩
 .refine Ad (Az _ (Ab hc h10c) zq7) (fun r14 h14c=>?_)
  refine An (fun _=>?_) (fun _=>?_)
  .refine Ad (Azb (Ab hc h14c)) (fun r15 ⟨h15,h15c⟩=>?_)
   rw[hd]
   exact Ah ⟨⟨Sf q1 q2 q3 q5 q6 q7 h15 q4 q9,rfl⟩,Ab hc h15c⟩
  .exact Ah ⟨⟨h9,h9d⟩,Ab hc h14c⟩
theorem F9 {α:Type} {c:Bool} {x y:Option α} {r:α} (h:br c x y=some r):(c=true/\x=some r)\/(c=false/\y=some r):=by
 cases c with
 |true=>exact .inl ⟨rfl,h⟩
 |false=>exact .inr ⟨rfl,h⟩
theorem Gz {α:Type} {c:Bool} {x:Option α} {r:α} (h:chk c x=some r):x=some r:=by
 cases c with
 |true=>exact h
 |false=>cases h
theorem Amq {α β:Type} {x:Option α} {f:α->Option β} {r:β} (h:ob x f=some r): ∃a,x=some a/\f a=some r:=by
 cases x with
 |none=>cases h
 |some a=>exact⟨a,rfl,h⟩
theorem Bm2 {p p':Bn} {n:YI} {a:A6} {d:YBs} {b:Bool} (h:Bd p<=4294967296) (e:Dh p n a d=some (p',(b,()))):
  (b=false->p'=p/\(D7 p=true->inR n.1 0 1000000=true->Ck a=true->d.1.length=12->p.2.2.1=[]->a.1=p.1/\a.2.1=p.2.1))/\
  (b=true->Ck a=true/\D7 p'=true/\p'.1=p.1/\p'.2.1=p.2.1/\ ¬(a.1=p.1/\a.2.1=p.2.1)/\ ∃l u,p'.2.2.1=l++[(a.1,a.2.1,d.1,u,())]/\ ∀x∈l,atA a.1 a.2.1 x=false):=by
 have hl0:p.2.2.1.length<=Bd p:=by simp only[Bd];omega
 obtain⟨q',b',o1,_,o3,_,o5⟩:=Iy p n a d h
 have e0:=e
 rw[o1]at e
 simp only[Option.some.injEq,Prod.mk.injEq,and_true]at e
 obtain⟨rfl,rfl⟩:=e
 refine⟨fun hb=>⟨o3 hb,fun k1 k2 k3 k4 k5=>?_⟩,fun hb=>?_⟩
 .subst hb
  unfold Dh Ab5 at e0
  simp only[Af,Ag,Aa,Aj]at e0
  rw[Wb p zq0,Cd,Hs,Hx,Nj p h,Vx p n h]at e0
  simp only[Ae,k1,k2,k3,show((d.1.length:Int)==12)=true by simp[k4],Bool.not_true,Ao]at e0
  rcases F9 e0 with⟨c,_⟩|⟨_,e1⟩
  .simp only[Bool.and_eq_true,beq_iff_eq,and_true]at c
   exact c
  .have ht:Se p n.1=Em p n.1:=by unfold Se;rw[k1,k2];rfl
   have hn:(Em p n.1).2.2.1=[]:=by show p.2.2.1.filter _=[];rw[k5];rfl
   rw[Ag6 _ _ (by rw[hn];simp)]at e1
   simp only[Ae,hn,Lw,Ih,Option.elim]at e1
   rcases F9 e1 with⟨c,_⟩|⟨_,e2⟩
   .simp at c
   .rcases F9 e2 with⟨c,_⟩|⟨_,e3⟩
    .simp at c
    .obtain⟨x,_,e4⟩:=Amq e3
     have e5:=Gz e4
     simp at e5
 .obtain⟨hp,hp'⟩:=o5 hb
  subst hb
  unfold Dh Ab5 at e0
  simp only[Af,Ag,Aa,Aj]at e0
  rw[Wb p zq0,Cd,Hs,Hx,Nj p h,Vx p n h]at e0
  simp only[Ae,hp,Bool.not_true,Ao]at e0
  rcases F9 e0 with⟨_,e1⟩|⟨c1,e1⟩
  .simp at e1
  rcases F9 e1 with⟨_,e2⟩|⟨c2,e2⟩
  .simp at e2
  rcases F9 e2 with⟨_,e3⟩|⟨c3,e3⟩
  .simp at e3
  rcases F9 e3 with⟨_,e4⟩|⟨c4,e4⟩
  .simp at e4
  have c1':inR n.1 0 1000000=true:=by simpa using c1
  have ht:Se p n.1=Em p n.1:=by unfold Se;rw[hp,c1'];rfl
  have htn:=Ay3 p n.1
  have htl:(Em p n.1).2.2.1.length<=Bd (Em p n.1):=by simp only[Bd];omega
  rw[Ag6 _ _ zq0]at e4
  simp only[Ae,Lw]at e4
  rcases F9 e4 with⟨_,e5⟩|⟨c5,e5⟩
  .simp at e5
  rcases F9 e5 with⟨_,e6⟩|⟨c6,e6⟩
  .simp at e6
  obtain⟨x,e7,e8⟩:=Amq e6
  have e9:=Gz e8
  have hd:d.1.length=12:=by
   have:((d.1.length:Int)==12)=true:=by simpa using c3
   have:=eq_of_beq this;omega
  rw[Ch _ zq0]at e7
  simp only[Option.some.injEq]at e7
  subst e7
  simp only[Option.some.injEq,Prod.mk.injEq,and_true]at e9
  have hf:Ih (fun _ x=>atA a.1 a.2.1 x) (Em p n.1).2.2.1 0=none:=by
   cases hf:Ih (fun _ x=>atA a.1 a.2.1 x) (Em p n.1).2.2.1 0 with
   |none=>rfl
   |some k=>rw[hf]at c5;simp only[Option.elim]at c5;have:=of_decide_eq_false c5;omega
  refine⟨by simpa using c2,hp',by rw[<-e9];rfl,by rw[<-e9];rfl,?_,(Em p n.1).2.2.1,IntKind.i64.wrap (n.1+6),by rw[<-e9],fun x hx=>?_⟩
  .intro ⟨q1,q2⟩
   rw[q1,q2]at c4
   simp at c4
  .obtain⟨j,hj⟩:=List.getElem?_of_mem hx
   exact Aca.1 hf j x hj
theorem Bj5 {p p':Bn} {n:YI} {a:A6} {d:YBs} {b:Bool} (h:Bd p<=4294967296) (e:Pc p n a d=some (p',(b,()))):(b=false->p'=p)/\(b=true->D7 p'=true/\p'.1=a.1/\p'.2.1=a.2.1/\p.2.2.1.length>0)/\Bd p'<=Bd p+50:=by
 have hl0:p.2.2.1.length<=Bd p:=by simp only[Bd];omega
 obtain⟨q',b',o1,_,o3,o4,o5⟩:=Avp p n a d h
 have e0:=e
 rw[o1]at e
 simp only[Option.some.injEq,Prod.mk.injEq,and_true]at e
 obtain⟨rfl,rfl⟩:=e
 refine⟨o3,fun hb=>?_,o4⟩
 obtain⟨hp,hp'⟩:=o5 hb
 subst hb
 unfold Pc Adu at e0
 simp only[Af,Ag,Aa,Aj]at e0
 rw[Wb p zq0,Cd,Nj p h,Ag6 p a zq0]at e0
 simp only[Ae,hp,Bool.not_true,Ao]at e0
 rcases F9 e0 with⟨_,e1⟩|⟨c1,e1⟩
 .simp at e1
 rcases F9 e1 with⟨_,e2⟩|⟨c2,e2⟩
 .simp at e2
 obtain⟨x,e3,e4⟩:=Amq e2
 obtain⟨y,_,e5⟩:=Amq e4
 rcases F9 e5 with⟨_,e6⟩|⟨c3,e6⟩
 .simp at e6
 obtain⟨z,_,e7⟩:=Amq e6
 rcases F9 e7 with⟨_,e8⟩|⟨c4,e8⟩
 .simp at e8
 have e9:=Gz (Gz (Gz (Gz (Gz (Gz (Gz (Gz e8)))))))
 simp only[Option.some.injEq,Prod.mk.injEq,and_true]at e9
 refine⟨hp',by rw[<-e9],by rw[<-e9],?_⟩
 cases hl:p.2.2.1 with
 |nil=>rw[hl]at e3;simp[idx]at e3
 |cons _ _=>simp
def Bs8 (o:Bc):Prop:=B7 (o.2.2.1,o.2.2.2.1,o.2.2.2.2.1,o.2.2.2.2.2.1,o.2.2.2.2.2.2.1,o.2.2.2.2.2.2.2.1,o.2.2.2.2.2.2.2.2.1,o.2.2.2.2.2.2.2.2.2.1,o.2.2.2.2.2.2.2.2.2.2.1,o.2.2.2.2.2.2.2.2.2.2.2.1,o.2.2.2.2.2.2.2.2.2.2.2.2.1,())=true/\Ck (o.1,o.2.1,())=true
def Jl (l:List Bc):Prop:=∀o∈l,Bs8 o
theorem Bhp {s:Ak} {X:Ap} {P:Bn} {n:Int} (h:Cs s=true) (hd:C4 s=false) (hX:Ci X=true) (h1:X.1=1) (h2:X.2.1=(Cm s).2.1) (hP:D7 P=true) (hn:0<=n/\n<=1000000):Cs (Jj s X P n)=true:=by
 obtain⟨q1,q2,q3,q4,q5,q6,q7,q8,q9⟩:=Tp h hd
 have hd':s.2.2.2.2.2.2.2.2.2.2.2.2.2.2.2.2.2.2.2.2.2.2.2.1=false:=hd
 unfold Jj
 rw[hd']
 exact Sf q1 q2 q3 hX h1 (by rw[h2];exact q7) hP q4 hn
theorem Kw {a b:List Ax} (h:H1 a) (k:H1 b):H1 (a++b):=fun n hn=>by
 rcases List.mem_append.1 hn with hn|hn
 .exact h n hn
 .exact k n hn
theorem Ey {n:Ax} (h:Ji n=true):H1 [n]:=fun m hm=>by
 rw[List.mem_singleton.1 hm];exact h
theorem A37 {a b:List Bc} (h:Jl a) (k:Jl b):Jl (a++b):=fun n hn=>by
 rcases List.mem_append.1 hn with hn|hn
 .exact h n hn
 .exact k n hn
theorem Bm3 {s1 r:Ak} {X0:Ap} {P:Bn} {s:Ak} {n:Int} {ep:YI} {p:YBs} {os:List Bc} {ns:List Ax} (he:s1=Jj s X0 P n) (hs:Cs s=true) (hd:C4 s=false) (hX:Ci X0=true) (h1:X0.1=1) (h2:X0.2.1=(Cm s).2.1) (hP:D7 P=true) (hc:A7 X0<=50000000)
  (h:Vg s1 ep p=some (r,(os,()),(ns,()))): ∃X,r=Jj s X P n/\Ci X=true/\X.1=1/\X.2.1=(Cm s).2.1/\A7 X<=A7 X0+200/\Jl os/\H1 ns:=by
 subst he
 obtain⟨q1,q2,q3,q4,q5,q6,q7,q8,q9⟩:=Tp hs hd
 obtain⟨X,zr,r1,_,R1,R2,R3⟩:=Avq X0 ep p zq0
 have nil:Jl []/\H1 []:=⟨fun _ h=>(by cases h),fun _ h=>(by cases h)⟩
 have hck:=Er X
 unfold Vg Vb at h
 simp only[Af,Ag,Aa,Aj]at h
 rw[show P3 (Cm (Jj s X0 P n)) ep p=some (X,(zr,()))from r1]at h
 simp only[Ae]at h
 rcases F9 h with⟨c0,h⟩|⟨c0,h⟩
 .simp only[Option.some.injEq,Prod.mk.injEq,and_true]at h
  obtain⟨hq,rfl,rfl⟩:=h
  exact⟨X0,hq.symm,hX,h1,h2,by omega,nil⟩
 have hz:zr=0:=by simpa using c0
 obtain⟨_,_,R4,R5,R6⟩:=R3 hz
 have hR5:X.1=1:=by rw[R5,h1]
 have hR6:X.2.1=(Cm s).2.1:=by rw[R6,h2]
 have hcf:=Hh R4
 have hcfe:=Fb hcf.2.2.1
 have hN:0<=X.2.2.1/\X.2.2.1<=4294967295:=hcfe.1
 have hK:X.2.2.2.1.length=32:=hcfe.2.1
 obtain⟨y,g,za,k1,_,K1,K2,K3⟩:=A30 X zq0
 have hyk:=Er y
 have turn:Ji ((10:Int),(0:Int),(1:Int),([]:List YB),s.2.2.1,X.2.2.1,(0:Int),([]:List YB),X.2.2.2.1,(0:Int),(0:Int),(0:Int),())=true:=by
  rw[Mz]
  simp only[List.length_nil]
  exact⟨by omega,by omega,by omega,hN,by omega,by omega,.inl trivial,.inr q3,by omega,.inr hK,A34⟩
 have ackd:za=0->Ci y=true/\y.1=1/\y.2.1=(Cm s).2.1/\B7 g=true:=fun hza=>by
  obtain⟨e',E1,_,_,_,E5⟩:=K3 hza
  obtain⟨_,c2,c3,c4,c5,c6⟩:=E5 rfl
  exact⟨c2,by rw[E1];exact hR5,by rw[E1];exact hR6,by rw[c5];exact Aak c6⟩
 have hAt:Ck ((Bm (Jj s X0 P n)).1,(Bm (Jj s X0 P n)).2.1,())=true:=by
  obtain⟨x1,x2,x3,⟨⟩⟩:=P
  exact(H5.1 hP).1
 have sent:za=0->Jl [((Bm (Jj s X0 P n)).1,(Bm (Jj s X0 P n)).2.1,g.1,g.2.1,g.2.2.1,g.2.2.2.1,g.2.2.2.2.1,g.2.2.2.2.2.1,g.2.2.2.2.2.2.1,g.2.2.2.2.2.2.2.1,g.2.2.2.2.2.2.2.2.1,g.2.2.2.2.2.2.2.2.2.1,g.2.2.2.2.2.2.2.2.2.2.1,())]:=fun hza o ho=>by
  rw[List.mem_singleton.1 ho]
  exact⟨(ackd hza).2.2.2,hAt⟩
 rw[k1]at h
 simp only[Ae]at h
 rw[Ii y g zq0 zq0]at h
 rcases F9 h with⟨_,h⟩|⟨_,h⟩
 .rw[Ch _ (by show s.2.2.1.length<=_;omega),Ch _ zq2]at h
  simp only[Ae]at h
  have h:=Gz h
  rcases F9 h with⟨_,h⟩|⟨c2,h⟩
  .simp only[Option.some.injEq,Prod.mk.injEq,and_true,List.nil_append]at h
   obtain⟨hq,rfl,rfl⟩:=h
   exact⟨X,hq.symm,R4,hR5,hR6,R2,nil.1,Ey turn⟩
  .have h:=Gz h
   have hza:za=0:=by simpa using c2
   simp only[Option.some.injEq,Prod.mk.injEq,and_true,List.nil_append]at h
   obtain⟨hq,rfl,rfl⟩:=h
   obtain⟨A1,A2,A3,A4⟩:=ackd hza
   exact⟨y,hq.symm,A1,A2,A3,by omega,sent hza,Kw (Ey turn) (Ey (Aqy A1))⟩
 .rcases F9 h with⟨_,h⟩|⟨c2,h⟩
  .simp only[Option.some.injEq,Prod.mk.injEq,and_true]at h
   obtain⟨hq,rfl,rfl⟩:=h
   exact⟨X,hq.symm,R4,hR5,hR6,R2,nil⟩
  .simp only[Ae]at h
   have h:=Gz h
   have hza:za=0:=by simpa using c2
   simp only[Option.some.injEq,Prod.mk.injEq,and_true,List.nil_append]at h
   obtain⟨hq,rfl,rfl⟩:=h
   obtain⟨A1,A2,A3,A4⟩:=ackd hza
   exact⟨y,hq.symm,A1,A2,A3,by omega,sent hza,Ey (Aqy A1)⟩
theorem Bo0 (l:List Bc) (h:Jl l) (hl:l.length<=4294967296):Aqa (l,())=some (true,()):=by
 have e:=Ct (B:=N5) l.length (fun i=>(l,(i:Int),())) (.inr ())
  (fun i hi=>by
   have hx:=List.getElem?_eq_getElem hi
   obtain⟨h1,h2⟩:=h _ (List.getElem_mem hi)
   unfold N5
   simp only[Af,Ag,Aa,Dm hi,A9,B9 hx,Ae,Kv,Hs,h1,h2,Bool.not_true,Ao]
   rw[w64 zq0]
   rfl)
  (by unfold N5;simp only[Af,Aa,Dn,Ao])
 unfold Aqa Apo
 simp only[Af,Ag,Aa,E8]
 rw[show Ay N5 (l,(0:Int),())=_ from e]
 rfl
end
end Go.Proofs.YtnbbbaplphcebaaGreat

/-
  That the program and the reference answer alike, in plain terms, and that the laws answer true.
-/
import Derived.Test.YthccfdmiejmbaaaDoorG2
namespace Go.Proofs.YthccfdmiejmbaaaDoor
open Go.RowKit
set_option linter.unusedVariables false
set_option linter.unusedSimpArgs false
set_option maxRecDepth 100000
set_option maxHeartbeats 16000000
noncomputable section
def Tot {α:Type} (P:α->Prop) (o:Option α):Prop:=∃a,o=some a/\P a
theorem Aj {α β:Type} {x:Option α} {f:α->Option β} {Q:α->Prop} {P:β->Prop} (h:Tot Q x) (k: ∀a,Q a->Tot P (f a)):Tot P (ob x f):=by
 obtain⟨a,rfl,ha⟩:=h
 exact k a ha
theorem B4 {β:Type} {c:Bool} {x y:Option β} {P:β->Prop} (h1:c=true->Tot P x) (h2:c=false->Tot P y):Tot P (br c x y):=by
 cases c with
 |true=>exact h1 rfl
 |false=>exact h2 rfl
theorem Hr {β:Type} {c:Bool} {x:Option β} {P:β->Prop} (h:c=true) (k:Tot P x):Tot P (chk c x):=by
 rw[h];exact k
theorem Ao {β:Type} {a:β} {P:β->Prop} (h:P a):Tot P (some a):=⟨a,rfl,h⟩
theorem Tot.mono {α:Type} {P Q:α->Prop} {o:Option α} (h:Tot P o) (k: ∀a,P a->Q a):Tot Q o:=by
 obtain⟨a,e,p⟩:=h
 exact⟨a,e,k a p⟩
def Cc (b:List YB) (c:Aq):Prop:=b.length<=1048576/\c.1=b/\0<=c.2.1/\c.2.1<=b.length
theorem Ah {b:List YB} {c r:Aq} (h0:Cc b c) (h:Cc b r):Cc b (c.1,r.2.1,r.2.2.1,()):=⟨h.1,h0.2.1,h.2.2⟩
theorem Aho (x:BitVec IntKind.i64.bits):(x &&& BitVec.ofInt IntKind.i64.bits 255).toNat<=255:=by
 rw[BitVec.toNat_and]
 have e:(BitVec.ofInt IntKind.i64.bits 255).toNat=255:=by decide
 rw[e]
 exact Nat.and_le_right
theorem Vl {α:Type} {l:List α} {i:Int} {P:α->Prop} (h0:0<=i) (h1:i<(l.length:Int)) (hm: ∀x,x∈l->P x):Tot P (idx l i):=by
 obtain⟨n,rfl⟩: ∃n:Nat,i=n:=⟨i.toNat,by omega⟩
 have hlt:n<l.length:=by omega
 exact⟨l[n],D2 (List.getElem?_eq_getElem hlt),hm _ (List.getElem_mem hlt)⟩
theorem Gq {b:List YB} {c:Aq} (h:Cc b c):Tot (fun r=>(0<=r.1.1/\r.1.1<=255)/\Cc b r.2) (D1 c):=by
 obtain⟨h1,h2,h3,h4⟩:=h
 have key: ∀(x:BitVec IntKind.i64.bits),0<=IntKind.i64.wrap ((x &&& BitVec.ofInt IntKind.i64.bits 255).toNat:Nat)/\IntKind.i64.wrap ((x &&& BitVec.ofInt IntKind.i64.bits 255).toNat:Nat)<=255:=fun x=>by
  have:=Aho x
  rw[w64 zq1];omega
 unfold D1 Nj
 simp only[Am,Ar,Ad,Aw]
 refine B4 (fun hb=>?_) (fun hb=>?_)
 .have hlt:c.2.1<(c.1.length:Int):=of_decide_eq_true hb
  rw[h2]at hlt
  refine Aj (Vl (P:=fun _=>True) h3 (by rw[h2];exact hlt) (fun _ _=>trivial)) (fun e _=>?_)
  refine Ao ⟨key _,h1,h2,?_,?_⟩
  .dsimp only;rw[w64 zq1];omega
  .dsimp only;rw[w64 zq1];omega
 .exact Ao ⟨key _,h1,h2,h3,h4⟩
theorem Bn {b:List YB} {c:Aq} (n:YI) (h:Cc b c) (hn:n.1<=16777216):Tot (fun r=>(0<=r.1.1/\(r.1.1<n.1\/r.1.1=0))/\Cc b r.2) (Bg c n):=by
 unfold Bg Lz
 simp only[Am,Ar,Ad,Aw]
 refine B4 (fun hb=>Ao ⟨⟨Int.le_refl _,.inr rfl⟩,h⟩) (fun hb=>?_)
 have h0: ¬n.1<=0:=of_decide_eq_false hb
 refine B4 (fun hb2=>?_) (fun hb2=>?_)
 .refine Aj (Gq h) (fun r hr=>?_)
  refine Hr (Al zq1) (Hr (Al zq1) (Ao ⟨⟨Int.emod_nonneg _ zq1,.inl (Int.emod_lt_of_pos _ zq1)⟩,Ah h hr.2⟩))
 .refine Aj (Gq h) (fun r1 hr1=>?_)
  refine Aj (Gq (Ah h hr1.2)) (fun r2 hr2=>?_)
  refine Aj (Gq (Ah h hr2.2)) (fun r3 hr3=>?_)
  have e:IntKind.i64.wrap (IntKind.i64.wrap (IntKind.i64.wrap (r1.1.1*65536)+IntKind.i64.wrap (r2.1.1*256))+r3.1.1)=r1.1.1*65536+r2.1.1*256+r3.1.1:=by
   rw[w64 (n:=r1.1.1*65536) zq1,w64 (n:=r2.1.1*256) zq1,w64 (n:=r1.1.1*65536+r2.1.1*256) zq1,w64 zq1]
  rw[e]
  refine Hr (Al zq1) (Hr (Al zq1) (Ao ⟨⟨Int.emod_nonneg _ zq1,.inl (Int.emod_lt_of_pos _ zq1)⟩,Ah h hr3.2⟩))
theorem Id {b:List YB} {c:Aq} (n:YI) (h:Cc b c) (hn:n.1<=16777216):Tot (fun r=>Cc b r.2) (Ey c n):=by
 unfold Ey Nk
 simp only[Am,Ar,Ad,Aw]
 exact Aj (Bn n h hn) (fun r hr=>Ao (Ah h hr.2))
theorem Dp {b:List YB} {c:Aq} (l:List YI) (lo hi:Int) (h:Cc b c) (hl:0<l.length/\l.length<=256) (hm: ∀x∈l,lo<=x.1/\x.1<=hi):Tot (fun r=>(lo<=r.1.1/\r.1.1<=hi)/\Cc b r.2) (C0 c (l,())):=by
 unfold C0 Pr
 simp only[Am,Ar,Ad,Aw]
 refine Aj (Bn _ h (by dsimp only;omega)) (fun r hr=>?_)
 obtain⟨⟨r1,r2⟩,r3⟩:=hr
 dsimp only at r2
 exact Aj (Vl r1 zq1 hm) (fun x hx=>Ao ⟨hx,Ah h r3⟩)
theorem Afh {l:List YB} {x:YB} (h:wfB l) (hx:0<=x.1/\x.1<=255):wfB (l++[x]):=fun i y hy=>by
 rcases Nat.lt_or_ge i l.length with hlt|hge
 .rw[List.getElem?_append_left hlt]at hy;exact h i y hy
 .rw[List.getElem?_append_right hge]at hy
  cases hi:i-l.length with
  |zero=>rw[hi]at hy;simp only[List.getElem?_cons_zero,Option.some.injEq]at hy;rw[<-hy];exact hx
  |succ k=>rw[hi]at hy;simp at hy
theorem Ahp {D O:Type} {B:D->Option (D⊕O)} (Q:Nat->D->Prop) (R:O->Prop) (n:Nat) (hs: ∀i d,i<n->Q i d->Tot (fun s=>∃d',s= .inl d'/\Q (i+1) d') (B d)) (he: ∀d,Q n d->Tot (fun s=>∃o,s= .inr o/\R o) (B d)) {d:D} (h:Q 0 d):Tot R (Ay B d):=by
 have key: ∀k i d,i+k=n->Q i d->Tot R (Ay B d):=by
  intro k
  induction k with
  |zero=>
   intro i d hi hq
   have e:i=n:=by omega
   subst e
   obtain⟨s,e,o,rfl,ho⟩:=he d hq
   rw[Ci,e]
   exact⟨o,rfl,ho⟩
  |succ k ih=>
   intro i d hi hq
   obtain⟨s,e,d',rfl,hq'⟩:=hs i d zq1 hq
   rw[Ci,e]
   exact ih (i+1) d' zq1 hq'
 exact key n 0 d zq1 h
theorem Oe {D O:Type} {B:D->Option (D⊕O)} (Q:Nat->D->Prop) (R:O->Prop) (n:Nat) (hs: ∀i d,i<=n->Q i d->Tot (fun s=>(∃d',s= .inl d'/\i<n/\Q (i+1) d')\/ ∃o,s= .inr o/\R o) (B d)) {d:D} (h:Q 0 d):Tot R (Ay B d):=by
 have key: ∀k i d,i+k=n->Q i d->Tot R (Ay B d):=by
  intro k
  induction k with
  |zero=>
   intro i d hi hq
   obtain⟨s,e,⟨d',rfl,hlt,hq'⟩|⟨o,rfl,ho⟩⟩:=hs i d zq1 hq
   .omega
   .rw[Ci,e];exact⟨o,rfl,ho⟩
  |succ k ih=>
   intro i d hi hq
   obtain⟨s,e,⟨d',rfl,hlt,hq'⟩|⟨o,rfl,ho⟩⟩:=hs i d zq1 hq
   .rw[Ci,e];exact ih (i+1) d' zq1 hq'
   .rw[Ci,e];exact⟨o,rfl,ho⟩
 exact key n 0 d zq1 h
theorem Bj {b:List YB} {c:Aq} (n:YI) (h:Cc b c) (hn:n.1<=1000000):Tot (fun r=>(r.1.1.length=n.1.toNat/\wfB r.1.1)/\Cc b r.2) (Bc c n):=by
 have hloop:Tot (fun o:(List YB)×(List YB)×Int×Int×Unit=>(o.1.length=n.1.toNat/\wfB o.1)/\Cc b (o.2.1,o.2.2.1,o.2.2.2.1,())) (Ay Ff (n.1,([]:List YB),(0:Int),c.1,c.2.1,c.2.2.1,())):=by
  refine Ahp (fun i d=>d.1=n.1/\d.2.1.length=i/\wfB d.2.1/\d.2.2.1=(i:Int)/\Cc b (d.2.2.2.1,d.2.2.2.2.1,d.2.2.2.2.2.1,())) _ n.1.toNat ?_ ?_ ⟨rfl,rfl,Abk,rfl,h⟩
  .rintro i ⟨m,l,j,c1,c2,c3,⟨⟩⟩ hi ⟨q1,q2,q3,q4,q5⟩
   dsimp only at q1 q2 q3 q4 q5
   subst q1 q4
   unfold Ff
   simp only[Am,Ar,Ad,Aw]
   rw[Al zq1,Bo]
   refine Aj (Gq q5) (fun r hr=>?_)
   refine Hr (Al zq0) (Ao ⟨_,rfl,rfl,?_,Afh q3 (Aih _),?_,?_⟩)
   .simp;omega
   .dsimp only;rw[w64 zq1];omega
   .have:=Ah q5 hr.2;exact this
  .rintro⟨m,l,j,c1,c2,c3,⟨⟩⟩ ⟨q1,q2,q3,q4,q5⟩
   dsimp only at q1 q2 q3 q4 q5
   subst q1 q4
   unfold Ff
   simp only[Am,Ar,Ad,Aw]
   rw[Df zq1,A9]
   exact Ao ⟨_,rfl,⟨q2,q3⟩,q5⟩
 unfold Bc L3
 simp only[Am,Ar,Ad,Aw]
 exact Aj hloop (fun o ho=>Ao ho)
theorem Wo (c:YBs) (h:c.1.length<=1048576):Tot (fun r=>Cc c.1 r) (Lh c):=by
 have hloop:Tot (fun o:((List YB)×Int×Unit)=>o.1=c.1) (Ay Jd (c.1,(IntKind.i64.wrap ((127812:Int)+(c.1.length:Int))),(0:Int),())):=by
  refine Oe (fun i d=>d.1=c.1/\d.2.2.1=(i:Int)) _ c.1.length ?_ ⟨rfl,rfl⟩
  rintro i ⟨l,a,j,⟨⟩⟩ hi ⟨q1,q2⟩
  dsimp only at q1 q2
  subst q1 q2
  unfold Jd
  simp only[Am,Ar,Ad,Aw]
  refine B4 (fun h1=>?_) (fun h1=>Ao (.inr ⟨_,rfl,rfl⟩))
  have h1:=of_decide_eq_true h1
  refine B4 (fun h2=>?_) (fun h2=>Ao (.inr ⟨_,rfl,rfl⟩))
  refine Aj (Vl (P:=fun _=>True) zq1 zq1 (fun _ _=>trivial)) (fun e _=>Ao (.inl ⟨_,rfl,by omega,rfl,?_⟩))
  show IntKind.i64.wrap ((i:Int)+1)=((i+1:Nat):Int)
  rw[w64 zq1];omega
 unfold Lh Pp
 simp only[Am,Ar,Ad,Aw]
 exact Aj hloop (fun o ho=>Ao ⟨h,ho,Int.le_refl _,by dsimp only;omega⟩)
theorem Afi (a b c:YI):Tot (fun _=>True) (Cu a b c):=by rw[Mz];exact Ao trivial
theorem Hh (a0:YI):Tot (fun _=>True) (Ez a0):=by
 unfold Ez Sj
 simp only[Am,Ar,Ad,Aw,List.length_nil,List.nil_append,Nat.zero_add]
 refine Aj (Afi _ _ _) (fun r1 _=>?_)
 refine B4 (fun hb1=>?_) (fun hb1=>?_)
 .exact Ao trivial
 .exact Ao trivial
theorem Ad5 {b:List YB} {a0:Aq} (hc:Cc b a0):Tot (fun r=>Cc b r.2) (Qg a0):=by
 unfold Qg Pu
 simp only[Am,Ar,Ad,Aw,List.length_nil,List.nil_append,Nat.zero_add]
 refine Aj (Dp _ (-9223372036854775808) (9223372036854775807) hc zq3 zq3) (fun r1 ⟨⟨hr11,hr12⟩,hr1c⟩=>?_)
 exact Ao (Ah hc hr1c)
theorem Ack {b:List YB} {a0:Aq} (hc:Cc b a0):Tot (fun r=>Cc b r.2) (N9 a0):=by
 unfold N9 Np
 simp only[Am,Ar,Ad,Aw,List.length_nil,List.nil_append,Nat.zero_add]
 refine Aj (Id _ hc zq4) (fun r1 hr1c=>?_)
 refine B4 (fun hb1=>?_) (fun hb1=>?_)
 .refine Aj (Bn _ (Ah hc hr1c) zq4) (fun r2 ⟨⟨hr21,hr22⟩,hr2c⟩=>?_)
  refine Aj (Gq (Ah hc hr2c)) (fun r3 ⟨⟨hr31,hr32⟩,hr3c⟩=>?_)
  refine Aj (Bn _ (Ah hc hr3c) zq4) (fun r4 ⟨⟨hr41,hr42⟩,hr4c⟩=>?_)
  exact Ao (Ah hc hr4c)
 .refine Aj (Bn _ (Ah hc hr1c) zq4) (fun r5 ⟨⟨hr51,hr52⟩,hr5c⟩=>?_)
  refine Aj (Hh _) (fun r6 _=>?_)
  exact Ao (Ah hc hr5c)
theorem Wp {b:List YB} {a0:Aq} (hc:Cc b a0):Tot (fun r=>Cc b r.2) (Li a0):=by
 unfold Li Pv
 simp only[Am,Ar,Ad,Aw,List.length_nil,List.nil_append,Nat.zero_add]
 refine Aj (Ack hc) (fun r1 hr1c=>?_)
 refine Aj (Bn _ (Ah hc hr1c) zq4) (fun r2 ⟨⟨hr21,hr22⟩,hr2c⟩=>?_)
 refine B4 (fun hb2=>?_) (fun hb2=>?_)
 .have hd2:=eq_of_beq hb2
  refine Aj (Ad5 (Ah hc hr2c)) (fun r3 hr3c=>?_)
  exact Ao (Ah hc hr3c)
 .refine B4 (fun hb6=>?_) (fun hb6=>?_)
  .have hd6:=eq_of_beq hb6
   refine Aj (Dp _ (-1) (65536) (Ah hc hr2c) zq3 zq3) (fun r4 ⟨⟨hr41,hr42⟩,hr4c⟩=>?_)
   exact Ao (Ah hc hr4c)
  .exact Ao (Ah hc hr2c)
theorem Acl {b:List YB} {a0:Aq} (hc:Cc b a0):Tot (fun r=>(Bq r.1<=110/\wfB r.1.2.2.2.1)/\Cc b r.2) (N6 a0):=by
 unfold N6 Nm
 simp only[Am,Ar,Ad,Aw,List.length_nil,List.nil_append,Nat.zero_add]
 refine Aj (Bn _ hc zq4) (fun r1 ⟨⟨hr11,hr12⟩,hr1c⟩=>?_)
 refine B4 (fun hb1=>?_) (fun hb1=>?_)
 .have hd1:=eq_of_beq hb1
  refine Aj (Bn _ (Ah hc hr1c) zq4) (fun r2 ⟨⟨hr21,hr22⟩,hr2c⟩=>?_)
  refine Aj (Bj _ (Ah hc hr2c) zq4) (fun r3 ⟨⟨hr31,hr32⟩,hr3c⟩=>?_)
  exact Ao ⟨⟨zq5,zq6⟩,(Ah hc hr3c)⟩
 .refine B4 (fun hb6=>?_) (fun hb6=>?_)
  .have hd6:=eq_of_beq hb6
   refine Aj (Bj _ (Ah hc hr1c) zq4) (fun r4 ⟨⟨hr41,hr42⟩,hr4c⟩=>?_)
   refine Aj (Bj _ (Ah hc hr4c) zq4) (fun r5 ⟨⟨hr51,hr52⟩,hr5c⟩=>?_)
   refine Aj (Dp _ (0) (1000000) (Ah hc hr5c) zq3 zq3) (fun r6 ⟨⟨hr61,hr62⟩,hr6c⟩=>?_)
   refine Aj (Bj _ (Ah hc hr6c) zq4) (fun r7 ⟨⟨hr71,hr72⟩,hr7c⟩=>?_)
   refine B4 (fun hb12=>?_) (fun hb12=>?_)
   .have hd12:=eq_of_beq hb12
    refine Aj (Bn _ (Ah hc hr7c) zq4) (fun r8 ⟨⟨hr81,hr82⟩,hr8c⟩=>?_)
    refine Aj (Bj _ (Ah hc hr8c) zq4) (fun r9 ⟨⟨hr91,hr92⟩,hr9c⟩=>?_)
    exact Ao ⟨⟨zq5,zq6⟩,(Ah hc hr9c)⟩
   .exact Ao ⟨⟨zq5,zq6⟩,(Ah hc hr7c)⟩
  .refine B4 (fun hb18=>?_) (fun hb18=>?_)
   .have hd18:=eq_of_beq hb18
    refine Aj (Bj _ (Ah hc hr1c) zq4) (fun r10 ⟨⟨hr101,hr102⟩,hr10c⟩=>?_)
    refine Aj (Bj _ (Ah hc hr10c) zq4) (fun r11 ⟨⟨hr111,hr112⟩,hr11c⟩=>?_)
    refine Aj (Dp _ (0) (1000000) (Ah hc hr11c) zq3 zq3) (fun r12 ⟨⟨hr121,hr122⟩,hr12c⟩=>?_)
    refine Aj (Bj _ (Ah hc hr12c) zq4) (fun r13 ⟨⟨hr131,hr132⟩,hr13c⟩=>?_)
    refine B4 (fun hb24=>?_) (fun hb24=>?_)
    .have hd24:=eq_of_beq hb24
     refine Aj (Bn _ (Ah hc hr13c) zq4) (fun r14 ⟨⟨hr141,hr142⟩,hr14c⟩=>?_)
     refine Aj (Bj _ (Ah hc hr14c) zq4) (fun r15 ⟨⟨hr151,hr152⟩,hr15c⟩=>?_)
     exact Ao ⟨⟨zq5,zq6⟩,(Ah hc hr15c)⟩
    .exact Ao ⟨⟨zq5,zq6⟩,(Ah hc hr13c)⟩
   .refine Aj (Bj _ (Ah hc hr1c) zq4) (fun r16 ⟨⟨hr161,hr162⟩,hr16c⟩=>?_)
    refine Aj (Dp _ (0) (4294967295) (Ah hc hr16c) zq3 zq3) (fun r17 ⟨⟨hr171,hr172⟩,hr17c⟩=>?_)
    refine Aj (Dp _ (0) (281474976710655) (Ah hc hr17c) zq3 zq3) (fun r18 ⟨⟨hr181,hr182⟩,hr18c⟩=>?_)
    refine Aj (Bj _ (Ah hc hr18c) zq4) (fun r19 ⟨⟨hr191,hr192⟩,hr19c⟩=>?_)
    refine Aj (Dp _ (0) (40) (Ah hc hr19c) zq3 zq3) (fun r20 ⟨⟨hr201,hr202⟩,hr20c⟩=>?_)
    refine B4 (fun hb35=>?_) (fun hb35=>?_)
    .have hd35:=eq_of_beq hb35
     refine B4 (fun hb37=>?_) (fun hb37=>?_)
     .have hd37:=of_decide_eq_true hb37
      refine Aj (Bj _ (Ah hc hr20c) zq4) (fun r21 ⟨⟨hr211,hr212⟩,hr21c⟩=>?_)
      exact Ao ⟨⟨zq5,zq6⟩,(Ah hc hr21c)⟩
     .have hd37:=of_decide_eq_false hb37
      refine Aj (Bj _ (Ah hc hr20c) zq4) (fun r22 ⟨⟨hr221,hr222⟩,hr22c⟩=>?_)
      exact Ao ⟨⟨zq5,zq6⟩,(Ah hc hr22c)⟩
    .refine B4 (fun hb44=>?_) (fun hb44=>?_)
     .have hd44:=eq_of_beq hb44
      refine B4 (fun hb46=>?_) (fun hb46=>?_)
      .have hd46:=of_decide_eq_true hb46
       refine Aj (Bj _ (Ah hc hr20c) zq4) (fun r23 ⟨⟨hr231,hr232⟩,hr23c⟩=>?_)
       exact Ao ⟨⟨zq5,zq6⟩,(Ah hc hr23c)⟩
      .have hd46:=of_decide_eq_false hb46
       refine Aj (Bj _ (Ah hc hr20c) zq4) (fun r24 ⟨⟨hr241,hr242⟩,hr24c⟩=>?_)
       exact Ao ⟨⟨zq5,zq6⟩,(Ah hc hr24c)⟩
     .refine B4 (fun hb53=>?_) (fun hb53=>?_)
      .have hd53:=of_decide_eq_true hb53
       refine Aj (Bj _ (Ah hc hr20c) zq4) (fun r25 ⟨⟨hr251,hr252⟩,hr25c⟩=>?_)
       exact Ao ⟨⟨zq5,zq6⟩,(Ah hc hr25c)⟩
      .have hd53:=of_decide_eq_false hb53
       refine Aj (Bj _ (Ah hc hr20c) zq4) (fun r26 ⟨⟨hr261,hr262⟩,hr26c⟩=>?_)
       exact Ao ⟨⟨zq5,zq6⟩,(Ah hc hr26c)⟩
theorem Zf (f:A5):(Bs f).length<=Bq f+100:=by
 unfold Bs
 cases Bh f with
 |false=>simp
 |true=>
 simp only[Bool.not_true,cond_false]
 cases f.1==1 with
 |true=>simp only[cond_true,List.length_cons,List.length_append,List.length_replicate,Bq];omega
 |false=>
 cases f.1==2 with
 |true=>simp only[cond_true,cond_false,List.length_cons,List.length_append,Ea,Bq];omega
 |false=>
 cases f.1==3 with
 |true=>simp only[cond_true,cond_false,List.length_cons,List.length_append,Ea,Bq];omega
 |false=>simp only[cond_false,List.length_cons,List.length_append,Ea,Bq];omega
theorem Jl {b:List YB} {a0:Aq} (hc:Cc b a0):Tot (fun r=>r.1.2.2.2.2.1.length<=300/\Cc b r.2) (Ft a0):=by
 unfold Ft L6
 simp only[Am,Ar,Ad,Aw]
 refine Aj (Id _ hc zq3) (fun r1 h1c=>?_)
 refine B4 (fun _=>?_) (fun _=>?_)
 .refine Aj (Bn _ (Ah hc h1c) zq3) (fun r2 ⟨_,h2c⟩=>?_)
  refine Aj (Hh _) (fun r3 _=>?_)
  refine Aj (Bn _ (Ah hc h2c) zq3) (fun r4 ⟨_,h4c⟩=>?_)
  refine Aj (Hh _) (fun r5 _=>?_)
  refine Aj (Dp _ 0 200 (Ah hc h4c) zq3 zq3) (fun r6 ⟨h6,h6c⟩=>?_)
  refine Aj (Bj _ (Ah hc h6c) zq1) (fun r7 ⟨⟨h7,_⟩,h7c⟩=>?_)
  exact Ao ⟨by dsimp only;omega,Ah hc h7c⟩
 .refine Aj (Bn _ (Ah hc h1c) zq3) (fun r2 ⟨_,h2c⟩=>?_)
  refine Aj (Hh _) (fun r3 _=>?_)
  refine Aj (Bn _ (Ah hc h2c) zq3) (fun r4 ⟨_,h4c⟩=>?_)
  refine Aj (Hh _) (fun r5 _=>?_)
  refine Aj (Acl (Ah hc h4c)) (fun r6 ⟨⟨h6,_⟩,h6c⟩=>?_)
  have hp:=Zf r6.1
  refine Aj (Q:=fun q:Ag=>q.2.2.2.2.1.length<=300) ?_ (fun q hq=>Ao ⟨hq,Ah hc h6c⟩)
  unfold Qf Ko
  simp only[Am,Ar,Ad,Aw]
  rw[Ua _ zq1,As]
  exact Ao (by dsimp only;omega)
theorem Afj {α:Type} {l:List α} {x y:α} {P:α->Prop} (h: ∀z∈l,P z) (hx:P x) (hy:y∈l++[x]):P y:=by
 rcases List.mem_append.1 hy with hy|hy
 .exact h y hy
 .rw[List.mem_singleton.1 hy];exact hx
theorem R3 (a:YBs):Oa a a=some (true,()):=by
 unfold Oa Sp
 simp only[Ad,decide_true]
theorem Tot.both {α:Type} {P Q:α->Prop} {o:Option α} (h:Tot P o) (k:Tot Q o):Tot (fun a=>P a/\Q a) o:=by
 obtain⟨a,rfl,p⟩:=h
 obtain⟨c,e,q⟩:=k
 cases e
 exact⟨a,rfl,p,q⟩
end
end Go.Proofs.YthccfdmiejmbaaaDoor

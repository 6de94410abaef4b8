/-
  That the program and the reference answer alike, in plain terms, and that the laws answer true.
-/
import Derived.Test.YtmhhajdeafijmaaGreatL31
namespace Go.Proofs.YtmhhajdeafijmaaGreat
open Go.RowKit
set_option linter.unusedVariables false
set_option linter.unusedSimpArgs false
set_option maxRecDepth 100000
set_option maxHeartbeats 4000000
noncomputable section
theorem Av3:F2 (List.replicate 32 ((0:Int),())):=⟨rfl,fun q x hx=>by
 rw[List.getElem?_replicate]at hx
 split at hx
 ·simp only[Option.some.injEq]at hx;subst hx;exact⟨by decide,by decide⟩
 ·cases hx⟩
theorem Bat (r:Nat):Rh (List.replicate 32 ((0:Int),())) r=false:=by
 unfold Rh
 rw[List.getElem?_replicate]
 split<;>simp
theorem Al8:Fq Tc=true:=by
 unfold Fq
 simp only[Bool.and_eq_true]
 refine⟨by decide,⟨Xh.2 fun q x hx=>by have:=Av3.2 q x hx;omega,by rfl⟩,Ad4.2 fun i hi=>?_,by rfl⟩
 rw[Xp (w:=Tc) Av3 (by show(0:Int)≤ -1+1+(i:Nat);omega)]
 exact Bat _
def Dd (n:Int) (k:List YB):YEp:=(n,k,(0:Int),(-1:Int),List.replicate 32 ((0:Int),()),())
theorem Al9 {n:Int} {k:List YB} (hn:0≤n∧n≤4294967295) (hk:k.length=32):Dm (Dd n k)=true:=by
 unfold Dm
 simp only[Bool.and_eq_true]
 exact⟨A6.2 hn,by show((k.length:Int)==32)=true;rw[hk];rfl,(show inR 0 0 281474976710656=true by decide),Al8⟩
theorem Av4 (n:Int) (k:List YB) (hn:0≤n∧n≤4294967295) (hk:k.length=32):Lk (n,()) (k,())=some (Dd n k)∧Ey (n,()) (k,())=some (Dd n k):=by
 have q:((k.length:Int) != 32)=false:=by simp[hk]
 have r:inR n 0 4294967295=true:=A6.2 hn
 unfold Lk Alr Ey Sr
 simp only[Ag,Ai,Ad,Ao,Br,Cb,Aj,Aaw,Aax,List.nil_append,List.length_nil,Nat.zero_add,r,Bool.not_true,An,q]
 rw[Cd _ zq2,Am zq0]
 exact⟨rfl,rfl⟩
def C5 (r:Int) (sn k:List YB):Af:=(r,sn,(0:Int),k,(0:Int),(-1:Int),List.replicate 32 ((0:Int),()),(0:Int),[],(0:Int),(0:Int),[],false,(0:Int),[],())
theorem Ad6 (r:Int) (sn k:List YB) (hr:r=0∨r=1) (hs:sn.length=12) (hk:k.length=32):Ads (r,()) (sn,()) (k,())=some (C5 r sn k)∧Ir (r,()) (sn,()) (k,())=some (C5 r sn k):=by
 obtain⟨e1,e2⟩:=Av4 0 k zq0 hk
 have q:((k.length:Int) != 32)=false:=by simp[hk]
 have q1:((sn.length:Int)==12)=true:=by simp[hs]
 have q2:((sn.length:Int) != 12)=false:=by simp[hs]
 have q3:inR r 0 1=true:=A6.2 zq0
 unfold Ads Aor Ir R1
 simp only[Ag,Ai,Ad,Ao,Aap,Cb,Jj,Aj,Afd,List.nil_append,List.length_nil,Nat.zero_add,q,q1,q2,q3,Bool.not_true,An]
 rw[Cd _ zq2,Am zq0,e1,e2]
 exact⟨rfl,rfl⟩
theorem Aow {r:Int} {sn k:List YB} (hr:r=0∨r=1) (hs:sn.length=12) (hk:k.length=32):Bd (C5 r sn k)=true:=by
 unfold Bd
 simp only[Bool.not_not,Bool.and_eq_true,Bool.or_eq_true,beq_iff_eq]
 refine⟨hr,by show(sn.length:Int)=12;omega,Al9 (n:=0) zq0 hk,?_,.inl rfl⟩
 unfold Hu
 rfl
theorem Tg {k l:List YB} (h1:l.length≤100) (h2:k.length≤1048576):(B0 k l).length=32:=by
 unfold B0 Jy
 rw[if_pos ⟨h1,h2⟩]
 exact Rg _ _ h2 zq1
def Bdn:List YB:=Pj (Bq [102,105,110,105,115,104])
def A4y:List YB:=[((114:Int),()),((111:Int),()),((97:Int),()),((109:Int),())]
def Ek (p:List YB):List YB:=bif Gx (p,())then B0 (F0 A4y p) Bdn else []
theorem Aox (p:List YB):Ns (p,())=some (Ek p,()):=by
 unfold Ns Ajs Sb Adq Ek
 simp only[Ag,Ai,Ad,Aub,Aj]
 rw[Alz,Aj,Aj,Aqd _ _ zq4,Aj]
 cases Gx (p,())<;>rfl
theorem Aoy (p:List YB):Nq (p,())=some (Ek p,()):=by
 unfold Nq Tq R9 Rz Ek
 simp only[Ag,Ai,Ad,Afh,Aj]
 rw[Al0,Aj,Aj,Aqe _ _ zq4,Aj]
 cases Gx (p,())<;>rfl
theorem Ama (p:List YB):(Ek p).length=32∨(Ek p).length=0:=by
 unfold Ek
 cases Gx (p,())with
 |false=>right;rfl
 |true=>exact Aij _ _
theorem Azp {p:List YB} (h:Gx (p,())=true):(Ek p).length=32:=by
 unfold Ek
 rw[h]
 have hl:(F0 A4y p).length≤32:=by rcases Aic A4y p with q|q<;>omega
 exact Tg zq4 zq0
def Hq (id:Int) (cn sn:List YB) (tick:Int) (ck:List YB):Bool:=inR id 1 9 && (((cn.length:Int)==12) && (((sn.length:Int)==12) && (inR tick 0 1000000 && ((ck.length:Int)==16))))
def Du (id:Int) (cn sn:List YB) (tick:Int) (ck:List YB):List YB:=bif Hq id cn sn tick ck then((102:Int),())::(IntKind.u8.wrap id,())::(cn++(sn++(E5 tick 4 4++ck)))else []
theorem Aoz (id:Int) (cn sn:List YB) (tick:Int) (ck:List YB):Kc (id,()) (cn,()) (sn,()) (tick,()) (ck,())=some (Du id cn sn tick ck,()):=by
 unfold Kc Ajt Du Hq
 simp only[Ag,Ai,Ad,Br,Jj,Aj,bne]
 cases inR id 1 9 with
 |false=>rfl
 |true=>
  cases h1:((cn.length:Int)==12)with
  |false=>rfl
  |true=>
   cases h2:((sn.length:Int)==12)with
   |false=>rfl
   |true=>
    cases inR tick 0 1000000 with
    |false=>rfl
    |true=>
     cases h3:((ck.length:Int)==16)with
     |false=>rfl
     |true=>
      have k1:(cn.length:Int)=12:=by simpa using h1
      have k2:(sn.length:Int)=12:=by simpa using h2
      have k3:(ck.length:Int)=16:=by simpa using h3
      simp only[Bool.not_true,An,Bool.and_true,cond_true]
      rw[Afe _ _ zq3,Aj,Is _ (by simp[cat,Gn];omega) zq3,Aj]
      simp[cat]
theorem Ao0 (id:Int) (cn sn:List YB) (tick:Int) (ck:List YB):Kb (id,()) (cn,()) (sn,()) (tick,()) (ck,())=some (Du id cn sn tick ck,()):=by
 unfold Kb Ts Du Hq
 simp only[Ag,Ai,Ad,Ao,Cb,Aj,bne]
 cases inR id 1 9 with
 |false=>rfl
 |true=>
  cases h1:((cn.length:Int)==12)with
  |false=>rfl
  |true=>
   cases h2:((sn.length:Int)==12)with
   |false=>rfl
   |true=>
    cases inR tick 0 1000000 with
    |false=>rfl
    |true=>
     cases h3:((ck.length:Int)==16)with
     |false=>rfl
     |true=>
      have k1:(cn.length:Int)=12:=by simpa using h1
      have k2:(sn.length:Int)=12:=by simpa using h2
      have k3:(ck.length:Int)=16:=by simpa using h3
      simp only[Bool.not_true,An,Bool.and_true,cond_true]
      rw[Am zq1,A5,Am zq1,A5,Rc _ _ zq1,Aj]
      simp only
      rw[Am (by simp[Gn];omega),A5]
      simp
theorem T9 {id:Int} {cn sn:List YB} {tick:Int} {ck:List YB}:(Du id cn sn tick ck).length=bif Hq id cn sn tick ck then 46 else 0:=by
 unfold Du
 cases h:Hq id cn sn tick ck with
 |false=>rfl
 |true=>
  unfold Hq at h
  simp only[Bool.and_eq_true,beq_iff_eq]at h
  simp[Gn];omega
def Px (p:List YB) (id:Int) (cn sn:List YB) (tick:Int) (ck:List YB):List YB:=if (Ek p).length=0∨(Du id cn sn tick ck).length=0 then []else Jw (Ek p) (Du id cn sn tick ck)
theorem Av5 (p:List YB) (id:Int) (cn sn:List YB) (tick:Int) (ck:List YB):(Px p id cn sn tick ck).length≤16:=by
 unfold Px
 split
 ·simp
 ·exact A22 _ _
theorem Bau (p:List YB) (id:Int) (cn sn:List YB) (tick:Int) (ck:List YB):Alm (p,()) (id,()) (cn,()) (sn,()) (tick,()) (ck,())=some (Px p id cn sn tick ck,()):=by
 unfold Alm Avr Px
 simp only[Ag,Ai,Ad,Aox,Aoz,Axn,Aj]
 by_cases h1:(Ek p).length=0
 ·rw[Ej (by simp[h1]),if_pos (.inl h1)]
 ·rw[Cp (by simp;exact fun e=>h1 (by simp[e]))]
  by_cases h2:(Du id cn sn tick ck).length=0
  ·rw[Ej (by simp[h2]),if_pos (.inr h2)]
  ·rw[Cp (by simp;exact fun e=>h2 (by simp[e])),if_neg (by rintro(q|q);exact h1 q;exact h2 q)]
theorem Bav (p:List YB) (id:Int) (cn sn:List YB) (tick:Int) (ck:List YB):Alj (p,()) (id,()) (cn,()) (sn,()) (tick,()) (ck,())=some (Px p id cn sn tick ck,()):=by
 unfold Alj Ako Px
 simp only[Ag,Ai,Ad,Aoy,Ao0,A4j,Aj]
 by_cases h1:(Ek p).length=0
 ·rw[Ej (by simp[h1]),if_pos (.inl h1)]
 ·rw[Cp (by simp;exact fun e=>h1 (by simp[e]))]
  by_cases h2:(Du id cn sn tick ck).length=0
  ·rw[Ej (by simp[h2]),if_pos (.inr h2)]
  ·rw[Cp (by simp;exact fun e=>h2 (by simp[e])),if_neg (by rintro(q|q);exact h1 q;exact h2 q)]
theorem A69 {p:List YB} {id:Int} {cn sn:List YB} {tick:Int} {ck:List YB} (h1:Gx (p,())=true) (h2:Hq id cn sn tick ck=true):(Px p id cn sn tick ck).length=16:=by
 have k1:=Azp h1
 have k2:=T9 (id:=id) (cn:=cn) (sn:=sn) (tick:=tick) (ck:=ck)
 rw[h2]at k2
 have k2:(Du id cn sn tick ck).length=46:=k2
 unfold Px
 rw[if_neg zq0]
 exact Aug zq0 zq0
theorem Lp {f:Aa} (h:Bg f=true) (hk:f.1=2):f.2.2.1.length=12∧f.2.2.2.1.length=12∧(0≤f.2.2.2.2.1∧f.2.2.2.2.1≤1000000)∧f.2.2.2.2.2.1.length=16∧f.2.1=0∧f.2.2.2.2.2.2.1.length=0∧f.2.2.2.2.2.2.2.1=0∧f.2.2.2.2.2.2.2.2.1=0∧f.2.2.2.2.2.2.2.2.2.1.length=0∧f.2.2.2.2.2.2.2.2.2.2.1.length=0:=by
 unfold Bg at h
 rw[hk]at h
 simp only[show inR 2 4 8=false by decide,cond_false,show((2:Int)==1)=false by decide,show((2:Int)==2)=true by decide,cond_true,Bool.and_eq_true,beq_iff_eq,A6]at h
 omega
def C6 (p:List YB) (id:Int) (f:Aa):Aa:=((3:Int),id,f.2.2.1,f.2.2.2.1,f.2.2.2.2.1,f.2.2.2.2.2.1,Px p id f.2.2.1 f.2.2.2.1 f.2.2.2.2.1 f.2.2.2.2.2.1,(0:Int),(0:Int),[],[],())
theorem Ajv (p:List YB) (id:Int) (f:Aa) (h1:Gx (p,())=true) (h2:1≤id∧id≤9) (h3:Bg f=true) (h4:f.1=2):Aal (p,()) (id,()) f=some (C6 p id f,(true,()))∧Z0 (p,()) (id,()) f=some (C6 p id f,(true,()))∧Bg (C6 p id f)=true:=by
 obtain⟨a1,a2,a3,a4,a5,a6,a7,a8,a9,a10⟩:=Lp h3 h4
 have hp:Hq id f.2.2.1 f.2.2.2.1 f.2.2.2.2.1 f.2.2.2.2.2.1=true:=by
  unfold Hq
  simp only[Bool.and_eq_true,beq_iff_eq,A6]
  omega
 have h16:=A69 h1 hp
 refine⟨?_,?_,?_⟩
 ·unfold Aal Aln
  simp only[Ag,Ai,Ad,Ic,Bau,Aj,h3,h4,Bool.not_true,An]
  rw[Cp (by rfl),Cp (by simp;intro e;rw[e]at h16;cases h16)]
  simp (disch:=first|omega|(dsimp only;omega)) only[Cd,Aj]
  rfl
 ·unfold Z0 X6
  simp only[Ag,Ai,Ad,Lo,Bav,Aj,h3,h4,Bool.not_true,An]
  rw[Cp (by rfl),Cp (by simp;intro e;rw[e]at h16;cases h16),Aqg f (by simp only[As];omega)]
  simp only[Aj]
  rw[List.eq_nil_of_length_eq_zero a9,List.eq_nil_of_length_eq_zero a10,a7,a8]
  rfl
 ·unfold Bg C6
  simp only[show inR 3 4 8=false by decide,cond_false,show((3:Int)==1)=false by decide,show((3:Int)==2)=false by decide,show((3:Int)==3)=true by decide,List.length_nil]
  simp only[Bool.and_eq_true,beq_iff_eq,A6,h16,true_and]
  omega
def Xq (l:List YB) (n:Int):Bool:=((l.length:Int)==0) || ((l.length:Int)==n)
def Fg (n:Ae):Bool:=inR n.1 1 17 && (inR n.2.1 0 9 && (inR n.2.2.1 0 1 && (inR n.2.2.2.2.2.1 0 4294967295 && (inR n.2.2.2.2.2.2.1 0 281474976710655 && (inR n.2.2.2.2.2.2.2.2.2.2.2.1 0 1000000 &&
 (Xq n.2.2.2.1 12 && (Xq n.2.2.2.2.1 12 && (decide ((n.2.2.2.2.2.2.2.1.length:Int)≤100) && (Xq n.2.2.2.2.2.2.2.2.1 32 && Gc (n.2.2.2.2.2.2.2.2.2.1,n.2.2.2.2.2.2.2.2.2.2.1,()))))))))))
theorem Gy {n:Ae}:Fg n=true↔(1≤n.1∧n.1≤17)∧(0≤n.2.1∧n.2.1≤9)∧(0≤n.2.2.1∧n.2.2.1≤1)∧(0≤n.2.2.2.2.2.1∧n.2.2.2.2.2.1≤4294967295)∧(0≤n.2.2.2.2.2.2.1∧n.2.2.2.2.2.2.1≤281474976710655)∧(0≤n.2.2.2.2.2.2.2.2.2.2.2.1∧n.2.2.2.2.2.2.2.2.2.2.2.1≤1000000)∧
  (n.2.2.2.1.length=0∨n.2.2.2.1.length=12)∧(n.2.2.2.2.1.length=0∨n.2.2.2.2.1.length=12)∧n.2.2.2.2.2.2.2.1.length≤100∧(n.2.2.2.2.2.2.2.2.1.length=0∨n.2.2.2.2.2.2.2.2.1.length=32)∧Gc (n.2.2.2.2.2.2.2.2.2.1,n.2.2.2.2.2.2.2.2.2.2.1,())=true:=by
 unfold Fg Xq
 simp only[Bool.and_eq_true,Bool.or_eq_true,beq_iff_eq,A6,decide_eq_true_eq]
 constructor
 ·rintro⟨a,b,c,d,e,f,g,h,i,j,k⟩
  exact⟨a,b,c,d,e,f,by omega,by omega,by omega,by omega,k⟩
 ·rintro⟨a,b,c,d,e,f,g,h,i,j,k⟩
  exact⟨a,b,c,d,e,f,by omega,by omega,by omega,by omega,k⟩
theorem Xi:Gc ((0:Int),(0:Int),())=true:=by decide
theorem Ad7 (r:Int) (f:Aa):(Bs r f).length≤65:=by
 have hh:=Ha r f.2.2.2.1 f.2.2.2.2.2.2.2.1 f.2.2.2.2.2.2.2.2.1
 have hle:(Bz r f.2.2.2.1 f.2.2.2.2.2.2.2.1 f.2.2.2.2.2.2.2.2.1).length≤23:=by rw[hh];cases Dc r f.2.2.2.1 f.2.2.2.2.2.2.2.1 f.2.2.2.2.2.2.2.2.1<;>simp
 unfold Bs
 cases h:(inR r 0 1 && (Bg f && inR f.1 4 8))with
 |false=>simp
 |true=>
  simp only[Bool.and_eq_true]at h
  have:=Aim h.2.1 h.2.2
  simp;omega
theorem Azq {k b:List YB} (h1:k.length=0∨k.length=32) (h2:b.length≤100):Fg (Se k b)=true:=by
 rw[Gy]
 simp only[Se,List.length_nil]
 exact⟨by omega,by omega,by omega,by omega,by omega,by omega,.inl trivial,.inl trivial,h2,h1,Xi⟩
theorem A8y {k s b:List YB} (h1:k.length=0∨k.length=32) (h2:s.length=0∨s.length=12) (h3:b.length≤100):Fg (Ain k s b)=true:=by
 rw[Gy]
 simp only[Ain,List.length_nil]
 exact⟨by omega,by omega,by omega,by omega,by omega,by omega,.inl trivial,h2,h3,h1,Xi⟩
theorem Azr {c:Af} {f:Aa} (h:Bd c=true):Fg (Sf c f)=true:=
 Azq (.inr (Ec (Ff h).2.2.1).2.1) (Nat.le_trans (Ad7 _ _) zq0)
def Ed (l:List Ae):Prop:=∀n∈l,Fg n=true
def N3 (l:List Aa):Prop:=∀f∈l,Bg f=true
end
end Go.Proofs.YtmhhajdeafijmaaGreat

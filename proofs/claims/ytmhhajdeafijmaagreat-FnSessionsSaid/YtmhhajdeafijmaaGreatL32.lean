/-
  That the program and the reference answer alike, in plain terms, and that the laws answer true.
-/
import Derived.Test.YtmhhajdeafijmaaGreatL31
namespace Go.Proofs.YtmhhajdeafijmaaGreat
open Go.RowKit
set_option linter.unusedVariables false
set_option linter.unusedSimpArgs false
set_option maxRecDepth 100000
set_option maxHeartbeats 4000000
noncomputable section
theorem At7:F7 (List.replicate 32 ((0:Int),())):=⟨rfl,fun q x hx=>by
 rw[List.getElem?_replicate]at hx
 split at hx
 ·simp only[Option.some.injEq]at hx;subst hx;exact⟨by decide,by decide⟩
 ·cases hx⟩
theorem A86 (r:Nat):Sx (List.replicate 32 ((0:Int),())) r=false:=by
 unfold Sx
 rw[List.getElem?_replicate]
 split<;>simp
theorem Ajs:Fz Ua=true:=by
 unfold Fz
 simp only[Bool.and_eq_true]
 refine⟨by decide,⟨Vt.2 fun q x hx=>by have:=At7.2 q x hx;omega,by rfl⟩,Aby.2 fun i hi=>?_,by rfl⟩
 rw[Vz (w:=Ua) At7 (by show(0:Int)≤ -1+1+(i:Nat);omega)]
 exact A86 _
def Xt (n:Int) (k:List YB):YEp:=(n,k,(0:Int),(-1:Int),List.replicate 32 ((0:Int),()),())
theorem Ajt {n:Int} {k:List YB} (hn:0≤n∧n≤4294967295) (hk:k.length=32):Dy (Xt n k)=true:=by
 unfold Dy
 simp only[Bool.and_eq_true]
 exact⟨Bp.2 hn,by show((k.length:Int)==32)=true;rw[hk];rfl,(show inR 0 0 281474976710656=true by decide),Ajs⟩
theorem Aju (n:Int) (k:List YB) (hn:0≤n∧n≤4294967295) (hk:k.length=32):Ka (n,()) (k,())=some (Xt n k)∧Dz (n,()) (k,())=some (Xt n k):=by
 have q:((k.length:Int) != 32)=false:=by simp[hk]
 have r:inR n 0 4294967295=true:=Bp.2 hn
 unfold Ka Zl Dz Ts
 simp only[Ae,Ai,Ac,Ak,Cj,Cz,Ag,Xp,Xq,List.nil_append,List.length_nil,Nat.zero_add,r,Bool.not_true,An,q]
 rw[Cw _ zq2,Am zq0]
 exact⟨rfl,rfl⟩
def Af6 (r:Int) (sn k:List YB):Aj:=(r,sn,(0:Int),k,(0:Int),(-1:Int),List.replicate 32 ((0:Int),()),(0:Int),[],(0:Int),(0:Int),[],false,(0:Int),[],())
theorem Amk (r:Int) (sn k:List YB) (hr:r=0∨r=1) (hs:sn.length=12) (hk:k.length=32):Amc (r,()) (sn,()) (k,())=some (Af6 r sn k)∧Ho (r,()) (sn,()) (k,())=some (Af6 r sn k):=by
 obtain⟨e1,e2⟩:=Aju 0 k zq0 hk
 have q:((k.length:Int) != 32)=false:=by simp[hk]
 have q1:((sn.length:Int)==12)=true:=by simp[hs]
 have q2:((sn.length:Int) != 12)=false:=by simp[hs]
 have q3:inR r 0 1=true:=Bp.2 zq0
 unfold Amc Amb Ho Te
 simp only[Ae,Ai,Ac,Ak,Xj,Cz,Hp,Ag,Ac1,List.nil_append,List.length_nil,Nat.zero_add,q,q1,q2,q3,Bool.not_true,An]
 rw[Cw _ zq2,Am zq0,e1,e2]
 exact⟨rfl,rfl⟩
theorem A0b {r:Int} {sn k:List YB} (hr:r=0∨r=1) (hs:sn.length=12) (hk:k.length=32):Bt (Af6 r sn k)=true:=by
 unfold Bt
 simp only[Bool.not_not,Bool.and_eq_true,Bool.or_eq_true,beq_iff_eq]
 refine⟨hr,by show(sn.length:Int)=12;omega,Ajt (n:=0) zq0 hk,?_,.inl rfl⟩
 unfold Ib
 rfl
theorem Z3 {k l:List YB} (h1:l.length≤100) (h2:k.length≤1048576):(E8 k l).length=32:=by
 unfold E8 Ku
 rw[if_pos ⟨h1,h2⟩]
 exact Vy _ _ h2 zq1
def Bbb:List YB:=Qy (Cy [102,105,110,105,115,104])
def A3f:List YB:=[((114:Int),()),((111:Int),()),((97:Int),()),((109:Int),())]
def Hr (p:List YB):List YB:=bif Nl (p,())then E8 (F6 A3f p) Bbb else []
theorem A0c (p:List YB):U1 (p,())=some (Hr p,()):=by
 unfold U1 Ahi Ama Al9 Hr
 simp only[Ae,Ai,Ac,A8z,Ag]
 rw[Aqe,Ag,Ag,Axd _ _ zq4,Ag]
 cases Nl (p,())<;>rfl
theorem A0d (p:List YB):Ux (p,())=some (Hr p,()):=by
 unfold Ux Um Tn Tc Hr
 simp only[Ae,Ai,Ac,Akr,Ag]
 rw[Ajm,Ag,Ag,Anv _ _ zq4,Ag]
 cases Nl (p,())<;>rfl
theorem Axo {p:List YB} (h:Nl (p,())=true):(Hr p).length=32:=by
 unfold Hr
 rw[h]
 have hl:(F6 A3f p).length≤32:=by rcases Afz A3f p with q|q<;>omega
 exact Z3 zq4 zq0
def Kw (id:Int) (cn sn:List YB) (tick:Int) (ck:List YB):Bool:=inR id 1 9 && (((cn.length:Int)==12) && (((sn.length:Int)==12) && (inR tick 0 1000000 && ((ck.length:Int)==16))))
def Gm (id:Int) (cn sn:List YB) (tick:Int) (ck:List YB):List YB:=bif Kw id cn sn tick ck then((102:Int),())::(IntKind.u8.wrap id,())::(cn++(sn++(Fw tick 4 4++ck)))else []
theorem A0e (id:Int) (cn sn:List YB) (tick:Int) (ck:List YB):U2 (id,()) (cn,()) (sn,()) (tick,()) (ck,())=some (Gm id cn sn tick ck,()):=by
 unfold U2 Ahj Gm Kw
 simp only[Ae,Ai,Ac,Cj,Hp,Ag,bne]
 cases inR id 1 9 with
 |false=>rfl
 |true=>
  cases h1:((cn.length:Int)==12)with
  |false=>rfl
  |true=>
   cases h2:((sn.length:Int)==12)with
   |false=>rfl
   |true=>
    cases inR tick 0 1000000 with
    |false=>rfl
    |true=>
     cases h3:((ck.length:Int)==16)with
     |false=>rfl
     |true=>
      have k1:(cn.length:Int)=12:=by simpa using h1
      have k2:(sn.length:Int)=12:=by simpa using h2
      have k3:(ck.length:Int)=16:=by simpa using h3
      simp only[Bool.not_true,An,Bool.and_true,cond_true]
      rw[Ac2 _ _ zq3,Ag,Ks _ (by simp[cat,G6];omega) zq3,Ag]
      simp[cat]
theorem A0f (id:Int) (cn sn:List YB) (tick:Int) (ck:List YB):Uy (id,()) (cn,()) (sn,()) (tick,()) (ck,())=some (Gm id cn sn tick ck,()):=by
 unfold Uy Un Gm Kw
 simp only[Ae,Ai,Ac,Ak,Cz,Ag,bne]
 cases inR id 1 9 with
 |false=>rfl
 |true=>
  cases h1:((cn.length:Int)==12)with
  |false=>rfl
  |true=>
   cases h2:((sn.length:Int)==12)with
   |false=>rfl
   |true=>
    cases inR tick 0 1000000 with
    |false=>rfl
    |true=>
     cases h3:((ck.length:Int)==16)with
     |false=>rfl
     |true=>
      have k1:(cn.length:Int)=12:=by simpa using h1
      have k2:(sn.length:Int)=12:=by simpa using h2
      have k3:(ck.length:Int)=16:=by simpa using h3
      simp only[Bool.not_true,An,Bool.and_true,cond_true]
      rw[Am zq1,Ba,Am zq1,Ba,Ss _ _ zq1,Ag]
      simp only
      rw[Am (by simp[G6];omega),Ba]
      simp
theorem Avl {id:Int} {cn sn:List YB} {tick:Int} {ck:List YB}:(Gm id cn sn tick ck).length=bif Kw id cn sn tick ck then 46 else 0:=by
 unfold Gm
 cases h:Kw id cn sn tick ck with
 |false=>rfl
 |true=>
  unfold Kw at h
  simp only[Bool.and_eq_true,beq_iff_eq]at h
  simp[G6];omega
def Rl (p:List YB) (id:Int) (cn sn:List YB) (tick:Int) (ck:List YB):List YB:=if (Hr p).length=0∨(Gm id cn sn tick ck).length=0 then []else Ri (Hr p) (Gm id cn sn tick ck)
theorem A5l (p:List YB) (id:Int) (cn sn:List YB) (tick:Int) (ck:List YB):(Rl p id cn sn tick ck).length≤16:=by
 unfold Rl
 split
 ·simp
 ·exact A1d _ _
theorem A87 (p:List YB) (id:Int) (cn sn:List YB) (tick:Int) (ck:List YB):Ajd (p,()) (id,()) (cn,()) (sn,()) (tick,()) (ck,())=some (Rl p id cn sn tick ck,()):=by
 unfold Ajd Atw Rl
 simp only[Ae,Ai,Ac,A0c,A0e,A24,Ag]
 by_cases h1:(Hr p).length=0
 ·rw[Fh (by simp[h1]),if_pos (.inl h1)]
 ·rw[C7 (by simp;exact fun e=>h1 (by simp[e]))]
  by_cases h2:(Gm id cn sn tick ck).length=0
  ·rw[Fh (by simp[h2]),if_pos (.inr h2)]
  ·rw[C7 (by simp;exact fun e=>h2 (by simp[e])),if_neg (by rintro(q|q);exact h1 q;exact h2 q)]
theorem A1l (p:List YB) (id:Int) (cn sn:List YB) (tick:Int) (ck:List YB):Zo (p,()) (id,()) (cn,()) (sn,()) (tick,()) (ck,())=some (Rl p id cn sn tick ck,()):=by
 unfold Zo Ahz Rl
 simp only[Ae,Ai,Ac,A0d,A0f,A25,Ag]
 by_cases h1:(Hr p).length=0
 ·rw[Fh (by simp[h1]),if_pos (.inl h1)]
 ·rw[C7 (by simp;exact fun e=>h1 (by simp[e]))]
  by_cases h2:(Gm id cn sn tick ck).length=0
  ·rw[Fh (by simp[h2]),if_pos (.inr h2)]
  ·rw[C7 (by simp;exact fun e=>h2 (by simp[e])),if_neg (by rintro(q|q);exact h1 q;exact h2 q)]
theorem A5m {p:List YB} {id:Int} {cn sn:List YB} {tick:Int} {ck:List YB} (h1:Nl (p,())=true) (h2:Kw id cn sn tick ck=true):(Rl p id cn sn tick ck).length=16:=by
 have k1:=Axo h1
 have k2:=Avl (id:=id) (cn:=cn) (sn:=sn) (tick:=tick) (ck:=ck)
 rw[h2]at k2
 have k2:(Gm id cn sn tick ck).length=46:=k2
 unfold Rl
 rw[if_neg zq0]
 exact A1k zq0 zq0
theorem Ajv {f:Aq} (h:Cq f=true) (hk:f.1=2):f.2.2.1.length=12∧f.2.2.2.1.length=12∧(0≤f.2.2.2.2.1∧f.2.2.2.2.1≤1000000)∧f.2.2.2.2.2.1.length=16∧f.2.1=0∧f.2.2.2.2.2.2.1.length=0∧f.2.2.2.2.2.2.2.1=0∧f.2.2.2.2.2.2.2.2.1=0∧f.2.2.2.2.2.2.2.2.2.1.length=0∧f.2.2.2.2.2.2.2.2.2.2.1.length=0:=by
 unfold Cq at h
 rw[hk]at h
 simp only[show inR 2 4 8=false by decide,cond_false,show((2:Int)==1)=false by decide,show((2:Int)==2)=true by decide,cond_true,Bool.and_eq_true,beq_iff_eq,Bp]at h
 omega
def Af7 (p:List YB) (id:Int) (f:Aq):Aq:=((3:Int),id,f.2.2.1,f.2.2.2.1,f.2.2.2.2.1,f.2.2.2.2.2.1,Rl p id f.2.2.1 f.2.2.2.1 f.2.2.2.2.1 f.2.2.2.2.2.1,(0:Int),(0:Int),[],[],())
theorem Avm (p:List YB) (id:Int) (f:Aq) (h1:Nl (p,())=true) (h2:1≤id∧id≤9) (h3:Cq f=true) (h4:f.1=2):Ajf (p,()) (id,()) f=some (Af7 p id f,(true,()))∧Jz (p,()) (id,()) f=some (Af7 p id f,(true,()))∧Cq (Af7 p id f)=true:=by
 obtain⟨a1,a2,a3,a4,a5,a6,a7,a8,a9,a10⟩:=Ajv h3 h4
 have hp:Kw id f.2.2.1 f.2.2.2.1 f.2.2.2.2.1 f.2.2.2.2.2.1=true:=by
  unfold Kw
  simp only[Bool.and_eq_true,beq_iff_eq,Bp]
  omega
 have h16:=A5m h1 hp
 refine⟨?_,?_,?_⟩
 ·unfold Ajf Aje
  simp only[Ae,Ai,Ac,T7,A87,Ag,h3,h4,Bool.not_true,An]
  rw[C7 (by rfl),C7 (by simp;intro e;rw[e]at h16;cases h16)]
  simp (disch:=first|omega|(dsimp only;omega)) only[Cw,Ag]
  rfl
 ·unfold Jz Qg
  simp only[Ae,Ai,Ac,Mr,A1l,Ag,h3,h4,Bool.not_true,An]
  rw[C7 (by rfl),C7 (by simp;intro e;rw[e]at h16;cases h16),Anx f (by simp only[Ar];omega)]
  simp only[Ag]
  rw[List.eq_nil_of_length_eq_zero a9,List.eq_nil_of_length_eq_zero a10,a7,a8]
  rfl
 ·unfold Cq Af7
  simp only[show inR 3 4 8=false by decide,cond_false,show((3:Int)==1)=false by decide,show((3:Int)==2)=false by decide,show((3:Int)==3)=true by decide,List.length_nil]
  simp only[Bool.and_eq_true,beq_iff_eq,Bp,h16,true_and]
  omega
def V0 (l:List YB) (n:Int):Bool:=((l.length:Int)==0) || ((l.length:Int)==n)
def J2 (n:A8):Bool:=inR n.1 1 17 && (inR n.2.1 0 9 && (inR n.2.2.1 0 1 && (inR n.2.2.2.2.2.1 0 4294967295 && (inR n.2.2.2.2.2.2.1 0 281474976710655 && (inR n.2.2.2.2.2.2.2.2.2.2.2.1 0 1000000 &&
 (V0 n.2.2.2.1 12 && (V0 n.2.2.2.2.1 12 && (decide ((n.2.2.2.2.2.2.2.1.length:Int)≤100) && (V0 n.2.2.2.2.2.2.2.2.1 32 && Du (n.2.2.2.2.2.2.2.2.2.1,n.2.2.2.2.2.2.2.2.2.2.1,()))))))))))
theorem Rm {n:A8}:J2 n=true↔(1≤n.1∧n.1≤17)∧(0≤n.2.1∧n.2.1≤9)∧(0≤n.2.2.1∧n.2.2.1≤1)∧(0≤n.2.2.2.2.2.1∧n.2.2.2.2.2.1≤4294967295)∧(0≤n.2.2.2.2.2.2.1∧n.2.2.2.2.2.2.1≤281474976710655)∧(0≤n.2.2.2.2.2.2.2.2.2.2.2.1∧n.2.2.2.2.2.2.2.2.2.2.2.1≤1000000)∧
  (n.2.2.2.1.length=0∨n.2.2.2.1.length=12)∧(n.2.2.2.2.1.length=0∨n.2.2.2.2.1.length=12)∧n.2.2.2.2.2.2.2.1.length≤100∧(n.2.2.2.2.2.2.2.2.1.length=0∨n.2.2.2.2.2.2.2.2.1.length=32)∧Du (n.2.2.2.2.2.2.2.2.2.1,n.2.2.2.2.2.2.2.2.2.2.1,())=true:=by
 unfold J2 V0
 simp only[Bool.and_eq_true,Bool.or_eq_true,beq_iff_eq,Bp,decide_eq_true_eq]
 constructor
 ·rintro⟨a,b,c,d,e,f,g,h,i,j,k⟩
  exact⟨a,b,c,d,e,f,by omega,by omega,by omega,by omega,k⟩
 ·rintro⟨a,b,c,d,e,f,g,h,i,j,k⟩
  exact⟨a,b,c,d,e,f,by omega,by omega,by omega,by omega,k⟩
theorem Avu:Du ((0:Int),(0:Int),())=true:=by decide
theorem Oc (r:Int) (f:Aq):(Cu r f).length≤65:=by
 have hh:=Ke r f.2.2.2.1 f.2.2.2.2.2.2.2.1 f.2.2.2.2.2.2.2.2.1
 have hle:(Da r f.2.2.2.1 f.2.2.2.2.2.2.2.1 f.2.2.2.2.2.2.2.2.1).length≤23:=by rw[hh];cases E7 r f.2.2.2.1 f.2.2.2.2.2.2.2.1 f.2.2.2.2.2.2.2.2.1<;>simp
 unfold Cu
 cases h:(inR r 0 1 && (Cq f && inR f.1 4 8))with
 |false=>simp
 |true=>
  simp only[Bool.and_eq_true]at h
  have:=Af5 h.2.1 h.2.2
  simp;omega
theorem A7h {k b:List YB} (h1:k.length=0∨k.length=32) (h2:b.length≤100):J2 (I2 k b)=true:=by
 rw[Rm]
 simp only[I2,List.length_nil]
 exact⟨by omega,by omega,by omega,by omega,by omega,by omega,.inl trivial,.inl trivial,h2,h1,Avu⟩
theorem A7i {k s b:List YB} (h1:k.length=0∨k.length=32) (h2:s.length=0∨s.length=12) (h3:b.length≤100):J2 (Fr k s b)=true:=by
 rw[Rm]
 simp only[Fr,List.length_nil]
 exact⟨by omega,by omega,by omega,by omega,by omega,by omega,.inl trivial,h2,h3,h1,Avu⟩
theorem Anz {c:Aj} {f:Aq} (h:Bt c=true):J2 (Fi c f)=true:=
 A7h (.inr (Dl (El h).2.2.1).2.1) (Nat.le_trans (Oc _ _) zq0)
def Lq (l:List A8):Prop:=∀n∈l,J2 n=true
end
end Go.Proofs.YtmhhajdeafijmaaGreat

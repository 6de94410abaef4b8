/-
  That the program and the reference answer alike, in plain terms, and that the laws answer true.
-/
import Derived.Test.YtjlblagmjlmglaaGreatL31
namespace Go.Proofs.YtjlblagmjlmglaaGreat
open Go.RowKit
set_option linter.unusedVariables false
set_option linter.unusedSimpArgs false
set_option maxRecDepth 100000
set_option maxHeartbeats 4000000
noncomputable section
theorem Av9:Fr (List.replicate 32 ((0:Int),())):=⟨rfl,fun q x hx=>by
 rw[List.getElem?_replicate]at hx
 split at hx
 ·simp only[Option.some.injEq]at hx;subst hx;exact⟨by decide,by decide⟩
 ·cases hx⟩
theorem Bbe (r:Nat):Qu (List.replicate 32 ((0:Int),())) r=false:=by
 unfold Qu
 rw[List.getElem?_replicate]
 split<;>simp
theorem A7w:Ih Z8=true:=by
 unfold Ih
 simp only[Bool.and_eq_true]
 refine⟨by decide,⟨Wx.2 fun q x hx=>by have:=Av9.2 q x hx;omega,by rfl⟩,Adf.2 fun i hi=>?_,by rfl⟩
 rw[W5 (w:=Z8) Av9 (by show(0:Int)≤ -1+1+(i:Nat);omega)]
 exact Bbe _
def Azv (n:Int) (k:List YB):YEp:=(n,k,(0:Int),(-1:Int),List.replicate 32 ((0:Int),()),())
theorem A7x {n:Int} {k:List YB} (hn:0≤n∧n≤4294967295) (hk:k.length=32):E0 (Azv n k)=true:=by
 unfold E0
 simp only[Bool.and_eq_true]
 exact⟨Bf.2 hn,by show((k.length:Int)==32)=true;rw[hk];rfl,(show inR 0 0 281474976710656=true by decide),A7w⟩
theorem A7y (n:Int) (k:List YB) (hn:0≤n∧n≤4294967295) (hk:k.length=32):Lf (n,()) (k,())=some (Azv n k)∧Fe (n,()) (k,())=some (Azv n k):=by
 have q:((k.length:Int) != 32)=false:=by simp[hk]
 have r:inR n 0 4294967295=true:=Bf.2 hn
 unfold Lf All Fe R5
 simp only[Ai,Aj,Ad,Ap,B6,Bv,Al,Ah1,Ah2,List.nil_append,List.length_nil,Nat.zero_add,r,Bool.not_true,Aq,q]
 rw[Cg _ zq2,Ao zq0]
 exact⟨rfl,rfl⟩
def Aab (r:Int) (sn k:List YB):Af:=(r,sn,(0:Int),k,(0:Int),(-1:Int),List.replicate 32 ((0:Int),()),(0:Int),[],(0:Int),(0:Int),[],false,(0:Int),[],())
theorem Aoj (r:Int) (sn k:List YB) (hr:r=0∨r=1) (hs:sn.length=12) (hk:k.length=32):Ac5 (r,()) (sn,()) (k,())=some (Aab r sn k)∧Kg (r,()) (sn,()) (k,())=some (Aab r sn k):=by
 obtain⟨e1,e2⟩:=A7y 0 k zq0 hk
 have q:((k.length:Int) != 32)=false:=by simp[hk]
 have q1:((sn.length:Int)==12)=true:=by simp[hs]
 have q2:((sn.length:Int) != 12)=false:=by simp[hs]
 have q3:inR r 0 1=true:=Bf.2 zq0
 unfold Ac5 Aoc Kg Rf
 simp only[Ai,Aj,Ad,Ap,Zy,Bv,H2,Al,Aet,List.nil_append,List.length_nil,Nat.zero_add,q,q1,q2,q3,Bool.not_true,Aq]
 rw[Cg _ zq2,Ao zq0,e1,e2]
 exact⟨rfl,rfl⟩
theorem A2c {r:Int} {sn k:List YB} (hr:r=0∨r=1) (hs:sn.length=12) (hk:k.length=32):Bw (Aab r sn k)=true:=by
 unfold Bw
 simp only[Bool.not_not,Bool.and_eq_true,Bool.or_eq_true,beq_iff_eq]
 refine⟨hr,by show(sn.length:Int)=12;omega,A7x (n:=0) zq0 hk,?_,.inl rfl⟩
 unfold Kr
 rfl
theorem Al2 {k l:List YB} (h1:l.length≤100) (h2:k.length≤1048576):(Hf k l).length=32:=by
 unfold Hf Jo
 rw[if_pos ⟨h1,h2⟩]
 exact Qt _ _ h2 zq1
def Bd8:List YB:=Oy (Ci [102,105,110,105,115,104])
def A5e:List YB:=[((114:Int),()),((111:Int),()),((97:Int),()),((109:Int),())]
def Ed (p:List YB):List YB:=bif F9 (p,())then Hf (Fq A5e p) Bd8 else []
theorem Aok (p:List YB):M7 (p,())=some (Ed p,()):=by
 unfold M7 Ajc Rt Ac3 Ed
 simp only[Ai,Aj,Ad,Aua,Al]
 rw[Alr,Al,Al,Ap5 _ _ zq4,Al]
 cases F9 (p,())<;>rfl
theorem Aol (p:List YB):M4 (p,())=some (Ed p,()):=by
 unfold M4 S5 Ro Rd Ed
 simp only[Ai,Aj,Ad,W4,Al]
 rw[Als,Al,Al,Ap6 _ _ zq4,Al]
 cases F9 (p,())<;>rfl
theorem Al3 (p:List YB):(Ed p).length=32∨(Ed p).length=0:=by
 unfold Ed
 cases F9 (p,())with
 |false=>right;rfl
 |true=>exact Ah0 _ _
theorem Azw {p:List YB} (h:F9 (p,())=true):(Ed p).length=32:=by
 unfold Ed
 rw[h]
 have hl:(Fq A5e p).length≤32:=by rcases Ahu A5e p with q|q<;>omega
 exact Al2 zq4 zq0
def Hk (id:Int) (cn sn:List YB) (tick:Int) (ck:List YB):Bool:=inR id 1 9 && (((cn.length:Int)==12) && (((sn.length:Int)==12) && (inR tick 0 1000000 && ((ck.length:Int)==16))))
def Dp (id:Int) (cn sn:List YB) (tick:Int) (ck:List YB):List YB:=bif Hk id cn sn tick ck then((102:Int),())::(IntKind.u8.wrap id,())::(cn++(sn++(Fg tick 4 4++ck)))else []
theorem Aom (id:Int) (cn sn:List YB) (tick:Int) (ck:List YB):J3 (id,()) (cn,()) (sn,()) (tick,()) (ck,())=some (Dp id cn sn tick ck,()):=by
 unfold J3 Ajd Dp Hk
 simp only[Ai,Aj,Ad,B6,H2,Al,bne]
 cases inR id 1 9 with
 |false=>rfl
 |true=>
  cases h1:((cn.length:Int)==12)with
  |false=>rfl
  |true=>
   cases h2:((sn.length:Int)==12)with
   |false=>rfl
   |true=>
    cases inR tick 0 1000000 with
    |false=>rfl
    |true=>
     cases h3:((ck.length:Int)==16)with
     |false=>rfl
     |true=>
      have k1:(cn.length:Int)=12:=by simpa using h1
      have k2:(sn.length:Int)=12:=by simpa using h2
      have k3:(ck.length:Int)=16:=by simpa using h3
      simp only[Bool.not_true,Aq,Bool.and_true,cond_true]
      rw[Amu _ _ zq3,Al,Ie _ (by simp[cat,Gf];omega) zq3,Al]
      simp[cat]
theorem Aon (id:Int) (cn sn:List YB) (tick:Int) (ck:List YB):J1 (id,()) (cn,()) (sn,()) (tick,()) (ck,())=some (Dp id cn sn tick ck,()):=by
 unfold J1 S7 Dp Hk
 simp only[Ai,Aj,Ad,Ap,Bv,Al,bne]
 cases inR id 1 9 with
 |false=>rfl
 |true=>
  cases h1:((cn.length:Int)==12)with
  |false=>rfl
  |true=>
   cases h2:((sn.length:Int)==12)with
   |false=>rfl
   |true=>
    cases inR tick 0 1000000 with
    |false=>rfl
    |true=>
     cases h3:((ck.length:Int)==16)with
     |false=>rfl
     |true=>
      have k1:(cn.length:Int)=12:=by simpa using h1
      have k2:(sn.length:Int)=12:=by simpa using h2
      have k3:(ck.length:Int)=16:=by simpa using h3
      simp only[Bool.not_true,Aq,Bool.and_true,cond_true]
      rw[Ao zq1,A8,Ao zq1,A8,Qq _ _ zq1,Al]
      simp only
      rw[Ao (by simp[Gf];omega),A8]
      simp
theorem Tn {id:Int} {cn sn:List YB} {tick:Int} {ck:List YB}:(Dp id cn sn tick ck).length=bif Hk id cn sn tick ck then 46 else 0:=by
 unfold Dp
 cases h:Hk id cn sn tick ck with
 |false=>rfl
 |true=>
  unfold Hk at h
  simp only[Bool.and_eq_true,beq_iff_eq]at h
  simp[Gf];omega
def Pg (p:List YB) (id:Int) (cn sn:List YB) (tick:Int) (ck:List YB):List YB:=if (Ed p).length=0∨(Dp id cn sn tick ck).length=0 then []else Pb (Ed p) (Dp id cn sn tick ck)
theorem Awa (p:List YB) (id:Int) (cn sn:List YB) (tick:Int) (ck:List YB):(Pg p id cn sn tick ck).length≤16:=by
 unfold Pg
 split
 ·simp
 ·exact A29 _ _
theorem Bbf (p:List YB) (id:Int) (cn sn:List YB) (tick:Int) (ck:List YB):Alg (p,()) (id,()) (cn,()) (sn,()) (tick,()) (ck,())=some (Pg p id cn sn tick ck,()):=by
 unfold Alg Avz Pg
 simp only[Ai,Aj,Ad,Aok,Aom,A4z,Al]
 by_cases h1:(Ed p).length=0
 ·rw[Ec (by simp[h1]),if_pos (.inl h1)]
 ·rw[Co (by simp;exact fun e=>h1 (by simp[e]))]
  by_cases h2:(Dp id cn sn tick ck).length=0
  ·rw[Ec (by simp[h2]),if_pos (.inr h2)]
  ·rw[Co (by simp;exact fun e=>h2 (by simp[e])),if_neg (by rintro(q|q);exact h1 q;exact h2 q)]
theorem Bbg (p:List YB) (id:Int) (cn sn:List YB) (tick:Int) (ck:List YB):Ak7 (p,()) (id,()) (cn,()) (sn,()) (tick,()) (ck,())=some (Pg p id cn sn tick ck,()):=by
 unfold Ak7 Aj4 Pg
 simp only[Ai,Aj,Ad,Aol,Aon,A40,Al]
 by_cases h1:(Ed p).length=0
 ·rw[Ec (by simp[h1]),if_pos (.inl h1)]
 ·rw[Co (by simp;exact fun e=>h1 (by simp[e]))]
  by_cases h2:(Dp id cn sn tick ck).length=0
  ·rw[Ec (by simp[h2]),if_pos (.inr h2)]
  ·rw[Co (by simp;exact fun e=>h2 (by simp[e])),if_neg (by rintro(q|q);exact h1 q;exact h2 q)]
theorem A7z {p:List YB} {id:Int} {cn sn:List YB} {tick:Int} {ck:List YB} (h1:F9 (p,())=true) (h2:Hk id cn sn tick ck=true):(Pg p id cn sn tick ck).length=16:=by
 have k1:=Azw h1
 have k2:=Tn (id:=id) (cn:=cn) (sn:=sn) (tick:=tick) (ck:=ck)
 rw[h2]at k2
 have k2:(Dp id cn sn tick ck).length=46:=k2
 unfold Pg
 rw[if_neg zq0]
 exact A3g zq0 zq0
theorem Aac {f:Aa} (h:B9 f=true) (hk:f.1=2):f.2.2.1.length=12∧f.2.2.2.1.length=12∧(0≤f.2.2.2.2.1∧f.2.2.2.2.1≤1000000)∧f.2.2.2.2.2.1.length=16∧f.2.1=0∧f.2.2.2.2.2.2.1.length=0∧f.2.2.2.2.2.2.2.1=0∧f.2.2.2.2.2.2.2.2.1=0∧f.2.2.2.2.2.2.2.2.2.1.length=0∧f.2.2.2.2.2.2.2.2.2.2.1.length=0:=by
 unfold B9 at h
 rw[hk]at h
 simp only[show inR 2 4 8=false by decide,cond_false,show((2:Int)==1)=false by decide,show((2:Int)==2)=true by decide,cond_true,Bool.and_eq_true,beq_iff_eq,Bf]at h
 omega
def C9 (p:List YB) (id:Int) (f:Aa):Aa:=((3:Int),id,f.2.2.1,f.2.2.2.1,f.2.2.2.2.1,f.2.2.2.2.2.1,Pg p id f.2.2.1 f.2.2.2.1 f.2.2.2.2.1 f.2.2.2.2.2.1,(0:Int),(0:Int),[],[],())
theorem Ajf (p:List YB) (id:Int) (f:Aa) (h1:F9 (p,())=true) (h2:1≤id∧id≤9) (h3:B9 f=true) (h4:f.1=2):Zt (p,()) (id,()) f=some (C9 p id f,(true,()))∧X9 (p,()) (id,()) f=some (C9 p id f,(true,()))∧B9 (C9 p id f)=true:=by
 obtain⟨a1,a2,a3,a4,a5,a6,a7,a8,a9,a10⟩:=Aac h3 h4
 have hp:Hk id f.2.2.1 f.2.2.2.1 f.2.2.2.2.1 f.2.2.2.2.2.1=true:=by
  unfold Hk
  simp only[Bool.and_eq_true,beq_iff_eq,Bf]
  omega
 have h16:=A7z h1 hp
 refine⟨?_,?_,?_⟩
 ·unfold Zt Alh
  simp only[Ai,Aj,Ad,Nt,Bbf,Al,h3,h4,Bool.not_true,Aq]
  rw[Co (by rfl),Co (by simp;intro e;rw[e]at h16;cases h16)]
  simp (disch:=first|omega|(dsimp only;omega)) only[Cg,Al]
  rfl
 ·unfold X9 Xi
  simp only[Ai,Aj,Ad,Ns,Bbg,Al,h3,h4,Bool.not_true,Aq]
  rw[Co (by rfl),Co (by simp;intro e;rw[e]at h16;cases h16),Ap8 f (by simp only[Ar];omega)]
  simp only[Al]
  rw[List.eq_nil_of_length_eq_zero a9,List.eq_nil_of_length_eq_zero a10,a7,a8]
  rfl
 ·unfold B9 C9
  simp only[show inR 3 4 8=false by decide,cond_false,show((3:Int)==1)=false by decide,show((3:Int)==2)=false by decide,show((3:Int)==3)=true by decide,List.length_nil]
  simp only[Bool.and_eq_true,beq_iff_eq,Bf,h16,true_and]
  omega
def Amx (l:List YB) (n:Int):Bool:=((l.length:Int)==0) || ((l.length:Int)==n)
def I1 (n:Ae):Bool:=inR n.1 1 17 && (inR n.2.1 0 9 && (inR n.2.2.1 0 1 && (inR n.2.2.2.2.2.1 0 4294967295 && (inR n.2.2.2.2.2.2.1 0 281474976710655 && (inR n.2.2.2.2.2.2.2.2.2.2.2.1 0 1000000 &&
 (Amx n.2.2.2.1 12 && (Amx n.2.2.2.2.1 12 && (decide ((n.2.2.2.2.2.2.2.1.length:Int)≤100) && (Amx n.2.2.2.2.2.2.2.2.1 32 && Fz (n.2.2.2.2.2.2.2.2.2.1,n.2.2.2.2.2.2.2.2.2.2.1,()))))))))))
theorem Jq {n:Ae}:I1 n=true↔(1≤n.1∧n.1≤17)∧(0≤n.2.1∧n.2.1≤9)∧(0≤n.2.2.1∧n.2.2.1≤1)∧(0≤n.2.2.2.2.2.1∧n.2.2.2.2.2.1≤4294967295)∧(0≤n.2.2.2.2.2.2.1∧n.2.2.2.2.2.2.1≤281474976710655)∧(0≤n.2.2.2.2.2.2.2.2.2.2.2.1∧n.2.2.2.2.2.2.2.2.2.2.2.1≤1000000)∧
  (n.2.2.2.1.length=0∨n.2.2.2.1.length=12)∧(n.2.2.2.2.1.length=0∨n.2.2.2.2.1.length=12)∧n.2.2.2.2.2.2.2.1.length≤100∧(n.2.2.2.2.2.2.2.2.1.length=0∨n.2.2.2.2.2.2.2.2.1.length=32)∧Fz (n.2.2.2.2.2.2.2.2.2.1,n.2.2.2.2.2.2.2.2.2.2.1,())=true:=by
 unfold I1 Amx
 simp only[Bool.and_eq_true,Bool.or_eq_true,beq_iff_eq,Bf,decide_eq_true_eq]
 constructor
 ·rintro⟨a,b,c,d,e,f,g,h,i,j,k⟩
  exact⟨a,b,c,d,e,f,by omega,by omega,by omega,by omega,k⟩
 ·rintro⟨a,b,c,d,e,f,g,h,i,j,k⟩
  exact⟨a,b,c,d,e,f,by omega,by omega,by omega,by omega,k⟩
theorem Ah6:Fz ((0:Int),(0:Int),())=true:=by decide
theorem Adh (r:Int) (f:Aa):(Dr r f).length≤65:=by
 have hh:=Ja r f.2.2.2.1 f.2.2.2.2.2.2.2.1 f.2.2.2.2.2.2.2.2.1
 have hle:(Cp r f.2.2.2.1 f.2.2.2.2.2.2.2.1 f.2.2.2.2.2.2.2.2.1).length≤23:=by rw[hh];cases Ev r f.2.2.2.1 f.2.2.2.2.2.2.2.1 f.2.2.2.2.2.2.2.2.1<;>simp
 unfold Dr
 cases h:(inR r 0 1 && (B9 f && inR f.1 4 8))with
 |false=>simp
 |true=>
  simp only[Bool.and_eq_true]at h
  have:=Ah4 h.2.1 h.2.2
  simp;omega
theorem Azx {k b:List YB} (h1:k.length=0∨k.length=32) (h2:b.length≤100):I1 (Rw k b)=true:=by
 rw[Jq]
 simp only[Rw,List.length_nil]
 exact⟨by omega,by omega,by omega,by omega,by omega,by omega,.inl trivial,.inl trivial,h2,h1,Ah6⟩
theorem A9s {k s b:List YB} (h1:k.length=0∨k.length=32) (h2:s.length=0∨s.length=12) (h3:b.length≤100):I1 (Ah5 k s b)=true:=by
 rw[Jq]
 simp only[Ah5,List.length_nil]
 exact⟨by omega,by omega,by omega,by omega,by omega,by omega,.inl trivial,h2,h3,h1,Ah6⟩
theorem A9t {c:Af} {f:Aa} (h:Bw c=true):I1 (Aa7 c f)=true:=
 Azx (.inr (Eo (Hj h).2.2.1).2.1) (Nat.le_trans (Adh _ _) zq0)
def Fs (l:List Ae):Prop:=∀n∈l,I1 n=true
def Aqa (l:List Aa):Prop:=∀f∈l,B9 f=true
end
end Go.Proofs.YtjlblagmjlmglaaGreat

/-
  That the program and the reference answer alike, in plain terms, and that the laws answer true.
-/
import Derived.Test.YtmhhajdeafijmaaGreatL31
namespace Go.Proofs.YtmhhajdeafijmaaGreat
open Go.RowKit
set_option linter.unusedVariables false
set_option linter.unusedSimpArgs false
set_option maxRecDepth 100000
set_option maxHeartbeats 4000000
noncomputable section
theorem Awf:Fl (List.replicate 32 ((0:Int),())):=⟨rfl,fun q x hx=>by
 rw[List.getElem?_replicate]at hx
 split at hx
 ·simp only[Option.some.injEq]at hx;subst hx;exact⟨by decide,by decide⟩
 ·cases hx⟩
theorem Bbh (r:Nat):Qv (List.replicate 32 ((0:Int),())) r=false:=by
 unfold Qv
 rw[List.getElem?_replicate]
 split<;>simp
theorem A73:Ic Aac=true:=by
 unfold Ic
 simp only[Bool.and_eq_true]
 refine⟨by decide,⟨Wx.2 fun q x hx=>by have:=Awf.2 q x hx;omega,by rfl⟩,Adq.2 fun i hi=>?_,by rfl⟩
 rw[W5 (w:=Aac) Awf (by show(0:Int)≤ -1+1+(i:Nat);omega)]
 exact Bbh _
def Az2 (n:Int) (k:List YB):YEp:=(n,k,(0:Int),(-1:Int),List.replicate 32 ((0:Int),()),())
theorem A74 {n:Int} {k:List YB} (hn:0≤n∧n≤4294967295) (hk:k.length=32):Es (Az2 n k)=true:=by
 unfold Es
 simp only[Bool.and_eq_true]
 exact⟨Bt.2 hn,by show((k.length:Int)==32)=true;rw[hk];rfl,(show inR 0 0 281474976710656=true by decide),A73⟩
theorem A75 (n:Int) (k:List YB) (hn:0≤n∧n≤4294967295) (hk:k.length=32):Kx (n,()) (k,())=some (Az2 n k)∧Dr (n,()) (k,())=some (Az2 n k):=by
 have q:((k.length:Int) != 32)=false:=by simp[hk]
 have r:inR n 0 4294967295=true:=Bt.2 hn
 unfold Kx Aav Dr Rz
 simp only[Aj,Al,Af,Aq,Ch,Cz,An,Aij,Aik,List.nil_append,List.length_nil,Nat.zero_add,r,Bool.not_true,Aw,q]
 rw[C4 _ zq2,Ap zq0]
 exact⟨rfl,rfl⟩
def Aae (r:Int) (sn k:List YB):Ai:=(r,sn,(0:Int),k,(0:Int),(-1:Int),List.replicate 32 ((0:Int),()),(0:Int),[],(0:Int),(0:Int),[],false,(0:Int),[],())
theorem Ao0 (r:Int) (sn k:List YB) (hr:r=0∨r=1) (hs:sn.length=12) (hk:k.length=32):Acs (r,()) (sn,()) (k,())=some (Aae r sn k)∧J6 (r,()) (sn,()) (k,())=some (Aae r sn k):=by
 obtain⟨e1,e2⟩:=A75 0 k zq0 hk
 have q:((k.length:Int) != 32)=false:=by simp[hk]
 have q1:((sn.length:Int)==12)=true:=by simp[hs]
 have q2:((sn.length:Int) != 12)=false:=by simp[hs]
 have q3:inR r 0 1=true:=Bt.2 zq0
 unfold Acs Acr J6 Q9
 simp only[Aj,Al,Af,Aq,Z3,Cz,I4,An,Aey,List.nil_append,List.length_nil,Nat.zero_add,q,q1,q2,q3,Bool.not_true,Aw]
 rw[C4 _ zq2,Ap zq0,e1,e2]
 exact⟨rfl,rfl⟩
theorem A2p {r:Int} {sn k:List YB} (hr:r=0∨r=1) (hs:sn.length=12) (hk:k.length=32):B4 (Aae r sn k)=true:=by
 unfold B4
 simp only[Bool.not_not,Bool.and_eq_true,Bool.or_eq_true,beq_iff_eq]
 refine⟨hr,by show(sn.length:Int)=12;omega,A74 (n:=0) zq0 hk,?_,.inl rfl⟩
 unfold Kl
 rfl
theorem Ami {k l:List YB} (h1:l.length≤100) (h2:k.length≤1048576):(Ha k l).length=32:=by
 unfold Ha Jj
 rw[if_pos ⟨h1,h2⟩]
 exact Qu _ _ h2 zq1
def Bdz:List YB:=N9 (Ck [102,105,110,105,115,104])
def A5m:List YB:=[((114:Int),()),((111:Int),()),((97:Int),()),((109:Int),())]
def D7 (p:List YB):List YB:=bif Km (p,())then Ha (Fj A5m p) Bdz else []
theorem Ao1 (p:List YB):Mv (p,())=some (D7 p,()):=by
 unfold Mv S9 Rg Rf D7
 simp only[Aj,Al,Af,Auq,An]
 rw[Al9,An,An,Aql _ _ zq4,An]
 cases Km (p,())<;>rfl
theorem Ao2 (p:List YB):Ms (p,())=some (D7 p,()):=by
 unfold Ms S2 Q8 Q7 D7
 simp only[Aj,Al,Af,Ane,An]
 rw[Ama,An,An,Aqm _ _ zq4,An]
 cases Km (p,())<;>rfl
theorem Amj (p:List YB):(D7 p).length=32∨(D7 p).length=0:=by
 unfold D7
 cases Km (p,())with
 |false=>right;rfl
 |true=>exact Aii _ _
theorem Az3 {p:List YB} (h:Km (p,())=true):(D7 p).length=32:=by
 unfold D7
 rw[h]
 have hl:(Fj A5m p).length≤32:=by rcases Aic A5m p with q|q<;>omega
 exact Ami zq4 zq0
def Hf (id:Int) (cn sn:List YB) (tick:Int) (ck:List YB):Bool:=inR id 1 9 && (((cn.length:Int)==12) && (((sn.length:Int)==12) && (inR tick 0 1000000 && ((ck.length:Int)==16))))
def Dm (id:Int) (cn sn:List YB) (tick:Int) (ck:List YB):List YB:=bif Hf id cn sn tick ck then((102:Int),())::(IntKind.u8.wrap id,())::(cn++(sn++(Fb tick 4 4++ck)))else []
theorem Ao3 (id:Int) (cn sn:List YB) (tick:Int) (ck:List YB):Jw (id,()) (cn,()) (sn,()) (tick,()) (ck,())=some (Dm id cn sn tick ck,()):=by
 unfold Jw Ta Dm Hf
 simp only[Aj,Al,Af,Ch,I4,An,bne]
 cases inR id 1 9 with
 |false=>rfl
 |true=>
  cases h1:((cn.length:Int)==12)with
  |false=>rfl
  |true=>
   cases h2:((sn.length:Int)==12)with
   |false=>rfl
   |true=>
    cases inR tick 0 1000000 with
    |false=>rfl
    |true=>
     cases h3:((ck.length:Int)==16)with
     |false=>rfl
     |true=>
      have k1:(cn.length:Int)=12:=by simpa using h1
      have k2:(sn.length:Int)=12:=by simpa using h2
      have k3:(ck.length:Int)=16:=by simpa using h3
      simp only[Bool.not_true,Aw,Bool.and_true,cond_true]
      rw[Anb _ _ zq3,An,H8 _ (by simp[cat,F7];omega) zq3,An]
      simp[cat]
theorem Ao4 (id:Int) (cn sn:List YB) (tick:Int) (ck:List YB):Ju (id,()) (cn,()) (sn,()) (tick,()) (ck,())=some (Dm id cn sn tick ck,()):=by
 unfold Ju S3 Dm Hf
 simp only[Aj,Al,Af,Aq,Cz,An,bne]
 cases inR id 1 9 with
 |false=>rfl
 |true=>
  cases h1:((cn.length:Int)==12)with
  |false=>rfl
  |true=>
   cases h2:((sn.length:Int)==12)with
   |false=>rfl
   |true=>
    cases inR tick 0 1000000 with
    |false=>rfl
    |true=>
     cases h3:((ck.length:Int)==16)with
     |false=>rfl
     |true=>
      have k1:(cn.length:Int)=12:=by simpa using h1
      have k2:(sn.length:Int)=12:=by simpa using h2
      have k3:(ck.length:Int)=16:=by simpa using h3
      simp only[Bool.not_true,Aw,Bool.and_true,cond_true]
      rw[Ap zq1,Bd,Ap zq1,Bd,Qr _ _ zq1,An]
      simp only
      rw[Ap (by simp[F7];omega),Bd]
      simp
theorem Tp {id:Int} {cn sn:List YB} {tick:Int} {ck:List YB}:(Dm id cn sn tick ck).length=bif Hf id cn sn tick ck then 46 else 0:=by
 unfold Dm
 cases h:Hf id cn sn tick ck with
 |false=>rfl
 |true=>
  unfold Hf at h
  simp only[Bool.and_eq_true,beq_iff_eq]at h
  simp[F7];omega
def Pj (p:List YB) (id:Int) (cn sn:List YB) (tick:Int) (ck:List YB):List YB:=if (D7 p).length=0∨(Dm id cn sn tick ck).length=0 then []else Pe (D7 p) (Dm id cn sn tick ck)
theorem Awg (p:List YB) (id:Int) (cn sn:List YB) (tick:Int) (ck:List YB):(Pj p id cn sn tick ck).length≤16:=by
 unfold Pj
 split
 ·simp
 ·exact A3k _ _
theorem Bbi (p:List YB) (id:Int) (cn sn:List YB) (tick:Int) (ck:List YB):Akv (p,()) (id,()) (cn,()) (sn,()) (tick,()) (ck,())=some (Pj p id cn sn tick ck,()):=by
 unfold Akv Aku Pj
 simp only[Aj,Al,Af,Ao1,Ao3,A47,An]
 by_cases h1:(D7 p).length=0
 ·rw[D6 (by simp[h1]),if_pos (.inl h1)]
 ·rw[Cp (by simp;exact fun e=>h1 (by simp[e]))]
  by_cases h2:(Dm id cn sn tick ck).length=0
  ·rw[D6 (by simp[h2]),if_pos (.inr h2)]
  ·rw[Cp (by simp;exact fun e=>h2 (by simp[e])),if_neg (by rintro(q|q);exact h1 q;exact h2 q)]
theorem Bbj (p:List YB) (id:Int) (cn sn:List YB) (tick:Int) (ck:List YB):Akc (p,()) (id,()) (cn,()) (sn,()) (tick,()) (ck,())=some (Pj p id cn sn tick ck,()):=by
 unfold Akc Akb Pj
 simp only[Aj,Al,Af,Ao2,Ao4,A48,An]
 by_cases h1:(D7 p).length=0
 ·rw[D6 (by simp[h1]),if_pos (.inl h1)]
 ·rw[Cp (by simp;exact fun e=>h1 (by simp[e]))]
  by_cases h2:(Dm id cn sn tick ck).length=0
  ·rw[D6 (by simp[h2]),if_pos (.inr h2)]
  ·rw[Cp (by simp;exact fun e=>h2 (by simp[e])),if_neg (by rintro(q|q);exact h1 q;exact h2 q)]
theorem A76 {p:List YB} {id:Int} {cn sn:List YB} {tick:Int} {ck:List YB} (h1:Km (p,())=true) (h2:Hf id cn sn tick ck=true):(Pj p id cn sn tick ck).length=16:=by
 have k1:=Az3 h1
 have k2:=Tp (id:=id) (cn:=cn) (sn:=sn) (tick:=tick) (ck:=ck)
 rw[h2]at k2
 have k2:(Dm id cn sn tick ck).length=46:=k2
 unfold Pj
 rw[if_neg zq0]
 exact A3r zq0 zq0
theorem Aaf {f:Ab} (h:Cc f=true) (hk:f.1=2):f.2.2.1.length=12∧f.2.2.2.1.length=12∧(0≤f.2.2.2.2.1∧f.2.2.2.2.1≤1000000)∧f.2.2.2.2.2.1.length=16∧f.2.1=0∧f.2.2.2.2.2.2.1.length=0∧f.2.2.2.2.2.2.2.1=0∧f.2.2.2.2.2.2.2.2.1=0∧f.2.2.2.2.2.2.2.2.2.1.length=0∧f.2.2.2.2.2.2.2.2.2.2.1.length=0:=by
 unfold Cc at h
 rw[hk]at h
 simp only[show inR 2 4 8=false by decide,cond_false,show((2:Int)==1)=false by decide,show((2:Int)==2)=true by decide,cond_true,Bool.and_eq_true,beq_iff_eq,Bt]at h
 omega
def Db (p:List YB) (id:Int) (f:Ab):Ab:=((3:Int),id,f.2.2.1,f.2.2.2.1,f.2.2.2.2.1,f.2.2.2.2.2.1,Pj p id f.2.2.1 f.2.2.2.1 f.2.2.2.2.1 f.2.2.2.2.2.1,(0:Int),(0:Int),[],[],())
theorem Aju (p:List YB) (id:Int) (f:Ab) (h1:Km (p,())=true) (h2:1≤id∧id≤9) (h3:Cc f=true) (h4:f.1=2):Zb (p,()) (id,()) f=some (Db p id f,(true,()))∧Xh (p,()) (id,()) f=some (Db p id f,(true,()))∧Cc (Db p id f)=true:=by
 obtain⟨a1,a2,a3,a4,a5,a6,a7,a8,a9,a10⟩:=Aaf h3 h4
 have hp:Hf id f.2.2.1 f.2.2.2.1 f.2.2.2.2.1 f.2.2.2.2.2.1=true:=by
  unfold Hf
  simp only[Bool.and_eq_true,beq_iff_eq,Bt]
  omega
 have h16:=A76 h1 hp
 refine⟨?_,?_,?_⟩
 ·unfold Zb Za
  simp only[Aj,Al,Af,La,Bbi,An,h3,h4,Bool.not_true,Aw]
  rw[Cp (by rfl),Cp (by simp;intro e;rw[e]at h16;cases h16)]
  simp (disch:=first|omega|(dsimp only;omega)) only[C4,An]
  rfl
 ·unfold Xh Xg
  simp only[Aj,Al,Af,No,Bbj,An,h3,h4,Bool.not_true,Aw]
  rw[Cp (by rfl),Cp (by simp;intro e;rw[e]at h16;cases h16),Aim f (by simp only[Ar];omega)]
  simp only[An]
  rw[List.eq_nil_of_length_eq_zero a9,List.eq_nil_of_length_eq_zero a10,a7,a8]
  rfl
 ·unfold Cc Db
  simp only[show inR 3 4 8=false by decide,cond_false,show((3:Int)==1)=false by decide,show((3:Int)==2)=false by decide,show((3:Int)==3)=true by decide,List.length_nil]
  simp only[Bool.and_eq_true,beq_iff_eq,Bt,h16,true_and]
  omega
def W6 (l:List YB) (n:Int):Bool:=((l.length:Int)==0) || ((l.length:Int)==n)
def Hg (n:Ah):Bool:=inR n.1 1 17 && (inR n.2.1 0 9 && (inR n.2.2.1 0 1 && (inR n.2.2.2.2.2.1 0 4294967295 && (inR n.2.2.2.2.2.2.1 0 281474976710655 && (inR n.2.2.2.2.2.2.2.2.2.2.2.1 0 1000000 &&
 (W6 n.2.2.2.1 12 && (W6 n.2.2.2.2.1 12 && (decide ((n.2.2.2.2.2.2.2.1.length:Int)≤100) && (W6 n.2.2.2.2.2.2.2.2.1 32 && Pc (n.2.2.2.2.2.2.2.2.2.1,n.2.2.2.2.2.2.2.2.2.2.1,()))))))))))
theorem Jl {n:Ah}:Hg n=true↔(1≤n.1∧n.1≤17)∧(0≤n.2.1∧n.2.1≤9)∧(0≤n.2.2.1∧n.2.2.1≤1)∧(0≤n.2.2.2.2.2.1∧n.2.2.2.2.2.1≤4294967295)∧(0≤n.2.2.2.2.2.2.1∧n.2.2.2.2.2.2.1≤281474976710655)∧(0≤n.2.2.2.2.2.2.2.2.2.2.2.1∧n.2.2.2.2.2.2.2.2.2.2.2.1≤1000000)∧
  (n.2.2.2.1.length=0∨n.2.2.2.1.length=12)∧(n.2.2.2.2.1.length=0∨n.2.2.2.2.1.length=12)∧n.2.2.2.2.2.2.2.1.length≤100∧(n.2.2.2.2.2.2.2.2.1.length=0∨n.2.2.2.2.2.2.2.2.1.length=32)∧Pc (n.2.2.2.2.2.2.2.2.2.1,n.2.2.2.2.2.2.2.2.2.2.1,())=true:=by
 unfold Hg W6
 simp only[Bool.and_eq_true,Bool.or_eq_true,beq_iff_eq,Bt,decide_eq_true_eq]
 constructor
 ·rintro⟨a,b,c,d,e,f,g,h,i,j,k⟩
  exact⟨a,b,c,d,e,f,by omega,by omega,by omega,by omega,k⟩
 ·rintro⟨a,b,c,d,e,f,g,h,i,j,k⟩
  exact⟨a,b,c,d,e,f,by omega,by omega,by omega,by omega,k⟩
theorem Aiq:Pc ((0:Int),(0:Int),())=true:=by decide
theorem Ads (r:Int) (f:Ab):(Do r f).length≤65:=by
 have hh:=I6 r f.2.2.2.1 f.2.2.2.2.2.2.2.1 f.2.2.2.2.2.2.2.2.1
 have hle:(Cr r f.2.2.2.1 f.2.2.2.2.2.2.2.1 f.2.2.2.2.2.2.2.2.1).length≤23:=by rw[hh];cases Eo r f.2.2.2.1 f.2.2.2.2.2.2.2.1 f.2.2.2.2.2.2.2.2.1<;>simp
 unfold Do
 cases h:(inR r 0 1 && (Cc f && inR f.1 4 8))with
 |false=>simp
 |true=>
  simp only[Bool.and_eq_true]at h
  have:=Aio h.2.1 h.2.2
  simp;omega
theorem Az4 {k b:List YB} (h1:k.length=0∨k.length=32) (h2:b.length≤100):Hg (Ru k b)=true:=by
 rw[Jl]
 simp only[Ru,List.length_nil]
 exact⟨by omega,by omega,by omega,by omega,by omega,by omega,.inl trivial,.inl trivial,h2,h1,Aiq⟩
theorem A9v {k s b:List YB} (h1:k.length=0∨k.length=32) (h2:s.length=0∨s.length=12) (h3:b.length≤100):Hg (Aip k s b)=true:=by
 rw[Jl]
 simp only[Aip,List.length_nil]
 exact⟨by omega,by omega,by omega,by omega,by omega,by omega,.inl trivial,h2,h3,h1,Aiq⟩
theorem A9w {c:Ai} {f:Ab} (h:B4 c=true):Hg (Abg c f)=true:=
 Az4 (.inr (Ek (He h).2.2.1).2.1) (Nat.le_trans (Ads _ _) zq0)
def E8 (l:List Ah):Prop:=∀n∈l,Hg n=true
def Air (l:List Ab):Prop:=∀f∈l,Cc f=true
end
end Go.Proofs.YtmhhajdeafijmaaGreat

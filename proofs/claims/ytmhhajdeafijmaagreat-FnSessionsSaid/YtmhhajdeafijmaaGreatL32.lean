/-
  That the program and the reference answer alike, in plain terms, and that the laws answer true.
-/
import Derived.Test.YtmhhajdeafijmaaGreatL31
namespace Go.Proofs.YtmhhajdeafijmaaGreat
open Go.RowKit
set_option linter.unusedVariables false
set_option linter.unusedSimpArgs false
set_option maxRecDepth 100000
set_option maxHeartbeats 4000000
noncomputable section
theorem Ar8:F4 (List.replicate 32 ((0:Int),())):=⟨rfl,fun q x hx=>by
 rw[List.getElem?_replicate]at hx
 split at hx
 ·simp only[Option.some.injEq]at hx;subst hx;exact⟨by decide,by decide⟩
 ·cases hx⟩
theorem A60 (r:Nat):Rz (List.replicate 32 ((0:Int),())) r=false:=by
 unfold Rz
 rw[List.getElem?_replicate]
 split<;>simp
theorem Aih:Fw Tl=true:=by
 unfold Fw
 simp only[Bool.and_eq_true]
 refine⟨by decide,⟨U5.2 fun q x hx=>by have:=Ar8.2 q x hx;omega,by rfl⟩,Aa8.2 fun i hi=>?_,by rfl⟩
 rw[Vb (w:=Tl) Ar8 (by show(0:Int)≤ -1+1+(i:Nat);omega)]
 exact A60 _
def W6 (n:Int) (k:List YB):YEp:=(n,k,(0:Int),(-1:Int),List.replicate 32 ((0:Int),()),())
theorem Aii {n:Int} {k:List YB} (hn:0≤n∧n≤4294967295) (hk:k.length=32):Dt (W6 n k)=true:=by
 unfold Dt
 simp only[Bool.and_eq_true]
 exact⟨Bl.2 hn,by show((k.length:Int)==32)=true;rw[hk];rfl,(show inR 0 0 281474976710656=true by decide),Aih⟩
theorem Aij (n:Int) (k:List YB) (hn:0≤n∧n≤4294967295) (hk:k.length=32):Ls (n,()) (k,())=some (W6 n k)∧Ev (n,()) (k,())=some (W6 n k):=by
 have q:((k.length:Int) != 32)=false:=by simp[hk]
 have r:inR n 0 4294967295=true:=Bl.2 hn
 unfold Ls Xk Ev S7
 simp only[Ae,Ai,Ac,Aj,Ch,Cw,Ag,W2,W3,List.nil_append,List.length_nil,Nat.zero_add,r,Bool.not_true,Am,q]
 rw[Cu _ zq2,Ak zq0]
 exact⟨rfl,rfl⟩
def Ae6 (r:Int) (sn k:List YB):Al:=(r,sn,(0:Int),k,(0:Int),(-1:Int),List.replicate 32 ((0:Int),()),(0:Int),[],(0:Int),(0:Int),[],false,(0:Int),[],())
theorem Ak0 (r:Int) (sn k:List YB) (hr:r=0∨r=1) (hs:sn.length=12) (hk:k.length=32):V_i_ChanNew (r,()) (sn,()) (k,())=some (Ae6 r sn k)∧Hi (r,()) (sn,()) (k,())=some (Ae6 r sn k):=by
 obtain⟨e1,e2⟩:=Aij 0 k zq0 hk
 have q:((k.length:Int) != 32)=false:=by simp[hk]
 have q1:((sn.length:Int)==12)=true:=by simp[hs]
 have q2:((sn.length:Int) != 12)=false:=by simp[hs]
 have q3:inR r 0 1=true:=Bl.2 zq0
 unfold V_i_ChanNew T_i_ChanNew Hi Sl
 simp only[Ae,Ai,Ac,Aj,Ww,Cw,Hk,Ag,Ab3,List.nil_append,List.length_nil,Nat.zero_add,q,q1,q2,q3,Bool.not_true,Am]
 rw[Cu _ zq2,Ak zq0,e1,e2]
 exact⟨rfl,rfl⟩
theorem Ax7 {r:Int} {sn k:List YB} (hr:r=0∨r=1) (hs:sn.length=12) (hk:k.length=32):Bo (Ae6 r sn k)=true:=by
 unfold Bo
 simp only[Bool.not_not,Bool.and_eq_true,Bool.or_eq_true,beq_iff_eq]
 refine⟨hr,by show(sn.length:Int)=12;omega,Aii (n:=0) zq0 hk,?_,.inl rfl⟩
 unfold H4
 rfl
theorem Zf {k l:List YB} (h1:l.length≤100) (h2:k.length≤1048576):(E6 k l).length=32:=by
 unfold E6 Kj
 rw[if_pos ⟨h1,h2⟩]
 exact Va _ _ h2 zq1
def A85:List YB:=Po (C6 [102,105,110,105,115,104])
def A09:List YB:=[((114:Int),()),((111:Int),()),((97:Int),()),((109:Int),())]
def Hm (p:List YB):List YB:=bif M0 (p,())then E6 (F3 A09 p) A85 else []
theorem Ax8 (p:List YB):V_i_FinishKey (p,())=some (Hm p,()):=by
 unfold V_i_FinishKey T_i_FinishKey V_i_Extract T_i_Extract Hm
 simp only[Ae,Ai,Ac,A6t,Ag]
 rw[Aoh,Ag,Ag,Au9 _ _ zq4,Ag]
 cases M0 (p,())<;>rfl
theorem Ax9 (p:List YB):Tz (p,())=some (Hm p,()):=by
 unfold Tz Tx Sj Si Hm
 simp only[Ae,Ai,Ac,Ajg,Ag]
 rw[Aib,Ag,Ag,Al5 _ _ zq4,Ag]
 cases M0 (p,())<;>rfl
theorem Avk {p:List YB} (h:M0 (p,())=true):(Hm p).length=32:=by
 unfold Hm
 rw[h]
 have hl:(F3 A09 p).length≤32:=by rcases Aez A09 p with q|q<;>omega
 exact Zf zq4 zq0
def Kl (id:Int) (cn sn:List YB) (tick:Int) (ck:List YB):Bool:=inR id 1 9 && (((cn.length:Int)==12) && (((sn.length:Int)==12) && (inR tick 0 1000000 && ((ck.length:Int)==16))))
def Gj (id:Int) (cn sn:List YB) (tick:Int) (ck:List YB):List YB:=bif Kl id cn sn tick ck then((102:Int),())::(IntKind.u8.wrap id,())::(cn++(sn++(Ft tick 4 4++ck)))else []
theorem Aya (id:Int) (cn sn:List YB) (tick:Int) (ck:List YB):V_i_ProofBody (id,()) (cn,()) (sn,()) (tick,()) (ck,())=some (Gj id cn sn tick ck,()):=by
 unfold V_i_ProofBody T_i_ProofBody Gj Kl
 simp only[Ae,Ai,Ac,Ch,Hk,Ag,bne]
 cases inR id 1 9 with
 |false=>rfl
 |true=>
  cases h1:((cn.length:Int)==12)with
  |false=>rfl
  |true=>
   cases h2:((sn.length:Int)==12)with
   |false=>rfl
   |true=>
    cases inR tick 0 1000000 with
    |false=>rfl
    |true=>
     cases h3:((ck.length:Int)==16)with
     |false=>rfl
     |true=>
      have k1:(cn.length:Int)=12:=by simpa using h1
      have k2:(sn.length:Int)=12:=by simpa using h2
      have k3:(ck.length:Int)=16:=by simpa using h3
      simp only[Bool.not_true,Am,Bool.and_true,cond_true]
      rw[Ab4 _ _ zq3,Ag,Kh _ (by simp[cat,Gz];omega) zq3,Ag]
      simp[cat]
theorem Ayb (id:Int) (cn sn:List YB) (tick:Int) (ck:List YB):T4 (id,()) (cn,()) (sn,()) (tick,()) (ck,())=some (Gj id cn sn tick ck,()):=by
 unfold T4 T0 Gj Kl
 simp only[Ae,Ai,Ac,Aj,Cw,Ag,bne]
 cases inR id 1 9 with
 |false=>rfl
 |true=>
  cases h1:((cn.length:Int)==12)with
  |false=>rfl
  |true=>
   cases h2:((sn.length:Int)==12)with
   |false=>rfl
   |true=>
    cases inR tick 0 1000000 with
    |false=>rfl
    |true=>
     cases h3:((ck.length:Int)==16)with
     |false=>rfl
     |true=>
      have k1:(cn.length:Int)=12:=by simpa using h1
      have k2:(sn.length:Int)=12:=by simpa using h2
      have k3:(ck.length:Int)=16:=by simpa using h3
      simp only[Bool.not_true,Am,Bool.and_true,cond_true]
      rw[Ak zq1,A8,Ak zq1,A8,Rv _ _ zq1,Ag]
      simp only
      rw[Ak (by simp[Gz];omega),A8]
      simp
theorem Atm {id:Int} {cn sn:List YB} {tick:Int} {ck:List YB}:(Gj id cn sn tick ck).length=bif Kl id cn sn tick ck then 46 else 0:=by
 unfold Gj
 cases h:Kl id cn sn tick ck with
 |false=>rfl
 |true=>
  unfold Kl at h
  simp only[Bool.and_eq_true,beq_iff_eq]at h
  simp[Gz];omega
def Q0 (p:List YB) (id:Int) (cn sn:List YB) (tick:Int) (ck:List YB):List YB:=if (Hm p).length=0∨(Gj id cn sn tick ck).length=0 then []else Qx (Hm p) (Gj id cn sn tick ck)
theorem A3f (p:List YB) (id:Int) (cn sn:List YB) (tick:Int) (ck:List YB):(Q0 p id cn sn tick ck).length≤16:=by
 unfold Q0
 split
 ·simp
 ·exact Ay8 _ _
theorem A61 (p:List YB) (id:Int) (cn sn:List YB) (tick:Int) (ck:List YB):V_i_Proof (p,()) (id,()) (cn,()) (sn,()) (tick,()) (ck,())=some (Q0 p id cn sn tick ck,()):=by
 unfold V_i_Proof T_i_Proof Q0
 simp only[Ae,Ai,Ac,Ax8,Aya,A0y,Ag]
 by_cases h1:(Hm p).length=0
 ·rw[Fg (by simp[h1]),if_pos (.inl h1)]
 ·rw[C4 (by simp;exact fun e=>h1 (by simp[e]))]
  by_cases h2:(Gj id cn sn tick ck).length=0
  ·rw[Fg (by simp[h2]),if_pos (.inr h2)]
  ·rw[C4 (by simp;exact fun e=>h2 (by simp[e])),if_neg (by rintro(q|q);exact h1 q;exact h2 q)]
theorem Azg (p:List YB) (id:Int) (cn sn:List YB) (tick:Int) (ck:List YB):Xg (p,()) (id,()) (cn,()) (sn,()) (tick,()) (ck,())=some (Q0 p id cn sn tick ck,()):=by
 unfold Xg Agt Q0
 simp only[Ae,Ai,Ac,Ax9,Ayb,A0z,Ag]
 by_cases h1:(Hm p).length=0
 ·rw[Fg (by simp[h1]),if_pos (.inl h1)]
 ·rw[C4 (by simp;exact fun e=>h1 (by simp[e]))]
  by_cases h2:(Gj id cn sn tick ck).length=0
  ·rw[Fg (by simp[h2]),if_pos (.inr h2)]
  ·rw[C4 (by simp;exact fun e=>h2 (by simp[e])),if_neg (by rintro(q|q);exact h1 q;exact h2 q)]
theorem A3g {p:List YB} {id:Int} {cn sn:List YB} {tick:Int} {ck:List YB} (h1:M0 (p,())=true) (h2:Kl id cn sn tick ck=true):(Q0 p id cn sn tick ck).length=16:=by
 have k1:=Avk h1
 have k2:=Atm (id:=id) (cn:=cn) (sn:=sn) (tick:=tick) (ck:=ck)
 rw[h2]at k2
 have k2:(Gj id cn sn tick ck).length=46:=k2
 unfold Q0
 rw[if_neg zq0]
 exact Azf zq0 zq0
theorem Aik {f:Au} (h:Co f=true) (hk:f.1=2):f.2.2.1.length=12∧f.2.2.2.1.length=12∧(0≤f.2.2.2.2.1∧f.2.2.2.2.1≤1000000)∧f.2.2.2.2.2.1.length=16∧f.2.1=0∧f.2.2.2.2.2.2.1.length=0∧f.2.2.2.2.2.2.2.1=0∧f.2.2.2.2.2.2.2.2.1=0∧f.2.2.2.2.2.2.2.2.2.1.length=0∧f.2.2.2.2.2.2.2.2.2.2.1.length=0:=by
 unfold Co at h
 rw[hk]at h
 simp only[show inR 2 4 8=false by decide,cond_false,show((2:Int)==1)=false by decide,show((2:Int)==2)=true by decide,cond_true,Bool.and_eq_true,beq_iff_eq,Bl]at h
 omega
def Ae7 (p:List YB) (id:Int) (f:Au):Au:=((3:Int),id,f.2.2.1,f.2.2.2.1,f.2.2.2.2.1,f.2.2.2.2.2.1,Q0 p id f.2.2.1 f.2.2.2.1 f.2.2.2.2.1 f.2.2.2.2.2.1,(0:Int),(0:Int),[],[],())
theorem Atn (p:List YB) (id:Int) (f:Au) (h1:M0 (p,())=true) (h2:1≤id∧id≤9) (h3:Co f=true) (h4:f.1=2):V_i_FinishOf (p,()) (id,()) f=some (Ae7 p id f,(true,()))∧Ja (p,()) (id,()) f=some (Ae7 p id f,(true,()))∧Co (Ae7 p id f)=true:=by
 obtain⟨a1,a2,a3,a4,a5,a6,a7,a8,a9,a10⟩:=Aik h3 h4
 have hp:Kl id f.2.2.1 f.2.2.2.1 f.2.2.2.2.1 f.2.2.2.2.2.1=true:=by
  unfold Kl
  simp only[Bool.and_eq_true,beq_iff_eq,Bl]
  omega
 have h16:=A3g h1 hp
 refine⟨?_,?_,?_⟩
 ·unfold V_i_FinishOf T_i_FinishOf
  simp only[Ae,Ai,Ac,Ti,A61,Ag,h3,h4,Bool.not_true,Am]
  rw[C4 (by rfl),C4 (by simp;intro e;rw[e]at h16;cases h16)]
  simp (disch:=first|omega|(dsimp only;omega)) only[Cu,Ag]
  rfl
 ·unfold Ja Pp
  simp only[Ae,Ai,Ac,Mc,Azg,Ag,h3,h4,Bool.not_true,Am]
  rw[C4 (by rfl),C4 (by simp;intro e;rw[e]at h16;cases h16),Al7 f (by simp only[Aq];omega)]
  simp only[Ag]
  rw[List.eq_nil_of_length_eq_zero a9,List.eq_nil_of_length_eq_zero a10,a7,a8]
  rfl
 ·unfold Co Ae7
  simp only[show inR 3 4 8=false by decide,cond_false,show((3:Int)==1)=false by decide,show((3:Int)==2)=false by decide,show((3:Int)==3)=true by decide,List.length_nil]
  simp only[Bool.and_eq_true,beq_iff_eq,Bl,h16,true_and]
  omega
def Vc (l:List YB) (n:Int):Bool:=((l.length:Int)==0) || ((l.length:Int)==n)
def Jt (n:B8):Bool:=inR n.1 1 17 && (inR n.2.1 0 9 && (inR n.2.2.1 0 1 && (inR n.2.2.2.2.2.1 0 4294967295 && (inR n.2.2.2.2.2.2.1 0 281474976710655 && (inR n.2.2.2.2.2.2.2.2.2.2.2.1 0 1000000 &&
 (Vc n.2.2.2.1 12 && (Vc n.2.2.2.2.1 12 && (decide ((n.2.2.2.2.2.2.2.1.length:Int)≤100) && (Vc n.2.2.2.2.2.2.2.2.1 32 && Dp (n.2.2.2.2.2.2.2.2.2.1,n.2.2.2.2.2.2.2.2.2.2.1,()))))))))))
theorem Q1 {n:B8}:Jt n=true↔(1≤n.1∧n.1≤17)∧(0≤n.2.1∧n.2.1≤9)∧(0≤n.2.2.1∧n.2.2.1≤1)∧(0≤n.2.2.2.2.2.1∧n.2.2.2.2.2.1≤4294967295)∧(0≤n.2.2.2.2.2.2.1∧n.2.2.2.2.2.2.1≤281474976710655)∧(0≤n.2.2.2.2.2.2.2.2.2.2.2.1∧n.2.2.2.2.2.2.2.2.2.2.2.1≤1000000)∧
  (n.2.2.2.1.length=0∨n.2.2.2.1.length=12)∧(n.2.2.2.2.1.length=0∨n.2.2.2.2.1.length=12)∧n.2.2.2.2.2.2.2.1.length≤100∧(n.2.2.2.2.2.2.2.2.1.length=0∨n.2.2.2.2.2.2.2.2.1.length=32)∧Dp (n.2.2.2.2.2.2.2.2.2.1,n.2.2.2.2.2.2.2.2.2.2.1,())=true:=by
 unfold Jt Vc
 simp only[Bool.and_eq_true,Bool.or_eq_true,beq_iff_eq,Bl,decide_eq_true_eq]
 constructor
 ·rintro⟨a,b,c,d,e,f,g,h,i,j,k⟩
  exact⟨a,b,c,d,e,f,by omega,by omega,by omega,by omega,k⟩
 ·rintro⟨a,b,c,d,e,f,g,h,i,j,k⟩
  exact⟨a,b,c,d,e,f,by omega,by omega,by omega,by omega,k⟩
theorem Atv:Dp ((0:Int),(0:Int),())=true:=by decide
theorem Nu (r:Int) (f:Au):(Cr r f).length≤65:=by
 have hh:=J4 r f.2.2.2.1 f.2.2.2.2.2.2.2.1 f.2.2.2.2.2.2.2.2.1
 have hle:(C8 r f.2.2.2.1 f.2.2.2.2.2.2.2.1 f.2.2.2.2.2.2.2.2.1).length≤23:=by rw[hh];cases E0 r f.2.2.2.1 f.2.2.2.2.2.2.2.1 f.2.2.2.2.2.2.2.2.1<;>simp
 unfold Cr
 cases h:(inR r 0 1 && (Co f && inR f.1 4 8))with
 |false=>simp
 |true=>
  simp only[Bool.and_eq_true]at h
  have:=Ae5 h.2.1 h.2.2
  simp;omega
theorem A5b {k b:List YB} (h1:k.length=0∨k.length=32) (h2:b.length≤100):Jt (It k b)=true:=by
 rw[Q1]
 simp only[It,List.length_nil]
 exact⟨by omega,by omega,by omega,by omega,by omega,by omega,.inl trivial,.inl trivial,h2,h1,Atv⟩
theorem A5c {k s b:List YB} (h1:k.length=0∨k.length=32) (h2:s.length=0∨s.length=12) (h3:b.length≤100):Jt (Fo k s b)=true:=by
 rw[Q1]
 simp only[Fo,List.length_nil]
 exact⟨by omega,by omega,by omega,by omega,by omega,by omega,.inl trivial,h2,h3,h1,Atv⟩
theorem Al9 {c:Al} {f:Au} (h:Bo c=true):Jt (Fh c f)=true:=
 A5b (.inr (Dh (Eh h).2.2.1).2.1) (Nat.le_trans (Nu _ _) zq0)
def Ld (l:List B8):Prop:=∀n∈l,Jt n=true
end
end Go.Proofs.YtmhhajdeafijmaaGreat

/-
  That the program and the reference answer alike, in plain terms, and that the laws answer true.
-/
import Derived.Test.YtmhhajdeafijmaaGreatL31
namespace Go.Proofs.YtmhhajdeafijmaaGreat
open Go.RowKit
set_option linter.unusedVariables false
set_option linter.unusedSimpArgs false
set_option maxRecDepth 100000
set_option maxHeartbeats 4000000
noncomputable section
theorem At6:Fw (List.replicate 32 ((0:Int),())):=⟨rfl,fun q x hx=>by
 rw[List.getElem?_replicate]at hx
 split at hx
 ·simp only[Option.some.injEq]at hx;subst hx;exact⟨by decide,by decide⟩
 ·cases hx⟩
theorem A85 (r:Nat):Rr (List.replicate 32 ((0:Int),())) r=false:=by
 unfold Rr
 rw[List.getElem?_replicate]
 split<;>simp
theorem A5k:I2 W6=true:=by
 unfold I2
 simp only[Bool.and_eq_true]
 refine⟨by decide,⟨U3.2 fun q x hx=>by have:=At6.2 q x hx;omega,by rfl⟩,Abd.2 fun i hi=>?_,by rfl⟩
 rw[U9 (w:=W6) At6 (by show(0:Int)≤ -1+1+(i:Nat);omega)]
 exact A85 _
def Aj2 (n:Int) (k:List YB):YEp:=(n,k,(0:Int),(-1:Int),List.replicate 32 ((0:Int),()),())
theorem A5l {n:Int} {k:List YB} (hn:0≤n∧n≤4294967295) (hk:k.length=32):Es (Aj2 n k)=true:=by
 unfold Es
 simp only[Bool.and_eq_true]
 exact⟨C6.2 hn,by show((k.length:Int)==32)=true;rw[hk];rfl,(show inR 0 0 281474976710656=true by decide),A5k⟩
theorem A5m (n:Int) (k:List YB) (hn:0≤n∧n≤4294967295) (hk:k.length=32):La (n,()) (k,())=some (Aj2 n k)∧Dx (n,()) (k,())=some (Aj2 n k):=by
 have q:((k.length:Int) != 32)=false:=by simp[hk]
 have r:inR n 0 4294967295=true:=C6.2 hn
 unfold La Xo Dx Sx
 simp only[Af,Ah,Ac,An,C9,C4,Ai,Afz,Af0,List.nil_append,List.length_nil,Nat.zero_add,r,Bool.not_true,Ap,q]
 rw[Dc _ zq2,Al zq0]
 exact⟨rfl,rfl⟩
theorem A5n {k l:List YB} (h1:l.length≤100) (h2:k.length≤1048576):(F9 k l).length=32:=by
 unfold F9 J3
 rw[if_pos ⟨h1,h2⟩]
 exact Ak3 _ _ h2 zq1
def Bba:List YB:=Pf (C8 [102,105,110,105,115,104])
def Ba5:List YB:=[((114:Int),()),((111:Int),()),((97:Int),()),((109:Int),())]
def Tg (p:List YB):List YB:=bif Avt (p,())then F9 (F7 Ba5 p) Bba else []
theorem A0l (p:List YB):Tr (p,())=some (Tg p,()):=by
 unfold Tr Tq R5 R4 Tg
 simp only[Af,Ah,Ac,Asm,Ai]
 rw[Ajv,Ai,Ai,An5 _ _ zq3,Ai]
 cases Avt (p,())<;>rfl
def Axw (id:Int) (cn sn:List YB) (tick:Int) (ck:List YB):Bool:=inR id 1 9 && (((cn.length:Int)==12) && (((sn.length:Int)==12) && (inR tick 0 1000000 && ((ck.length:Int)==16))))
def Th (id:Int) (cn sn:List YB) (tick:Int) (ck:List YB):List YB:=bif Axw id cn sn tick ck then((102:Int),())::(IntKind.u8.wrap id,())::(cn++(sn++(Fi tick 4 4++ck)))else []
theorem A0m (id:Int) (cn sn:List YB) (tick:Int) (ck:List YB):Tt (id,()) (cn,()) (sn,()) (tick,()) (ck,())=some (Th id cn sn tick ck,()):=by
 unfold Tt Ts Th Axw
 simp only[Af,Ah,Ac,An,C4,Ai,bne]
 cases inR id 1 9 with
 |false=>rfl
 |true=>
  cases h1:((cn.length:Int)==12)with
  |false=>rfl
  |true=>
   cases h2:((sn.length:Int)==12)with
   |false=>rfl
   |true=>
    cases inR tick 0 1000000 with
    |false=>rfl
    |true=>
     cases h3:((ck.length:Int)==16)with
     |false=>rfl
     |true=>
      have k1:(cn.length:Int)=12:=by simpa using h1
      have k2:(sn.length:Int)=12:=by simpa using h2
      have k3:(ck.length:Int)=16:=by simpa using h3
      simp only[Bool.not_true,Ap,Bool.and_true,cond_true]
      rw[Al zq1,A5,Al zq1,A5,Rn _ _ zq1,Ai]
      simp only
      rw[Al (by simp[Ix];omega),A5]
      simp
def Aqp (p:List YB) (id:Int) (cn sn:List YB) (tick:Int) (ck:List YB):List YB:=if (Tg p).length=0∨(Th id cn sn tick ck).length=0 then []else W4 (Tg p) (Th id cn sn tick ck)
theorem A5o (p:List YB) (id:Int) (cn sn:List YB) (tick:Int) (ck:List YB):(Aqp p id cn sn tick ck).length≤16:=by
 unfold Aqp
 split
 ·simp
 ·exact A1e _ _
theorem A86 (p:List YB) (id:Int) (cn sn:List YB) (tick:Int) (ck:List YB):Xj (p,()) (id,()) (cn,()) (sn,()) (tick,()) (ck,())=some (Aqp p id cn sn tick ck,()):=by
 unfold Xj Ahv Aqp
 simp only[Af,Ah,Ac,A0l,A0m,A2w,Ai]
 by_cases h1:(Tg p).length=0
 ·rw[F3 (by simp[h1]),if_pos (.inl h1)]
 ·rw[Dv (by simp;exact fun e=>h1 (by simp[e]))]
  by_cases h2:(Th id cn sn tick ck).length=0
  ·rw[F3 (by simp[h2]),if_pos (.inr h2)]
  ·rw[Dv (by simp;exact fun e=>h2 (by simp[e])),if_neg (by rintro(q|q);exact h1 q;exact h2 q)]
theorem Abf (r:Int) (f:Au):(Cw r f).length≤65:=by
 have hh:=Lx r f.2.2.2.1 f.2.2.2.2.2.2.2.1 f.2.2.2.2.2.2.2.2.1
 have hle:(Df r f.2.2.2.1 f.2.2.2.2.2.2.2.1 f.2.2.2.2.2.2.2.2.1).length≤23:=by rw[hh];cases Fm r f.2.2.2.1 f.2.2.2.2.2.2.2.1 f.2.2.2.2.2.2.2.2.1<;>simp
 unfold Cw
 cases h:(inR r 0 1 && (El f && inR f.1 4 8))with
 |false=>simp
 |true=>
  simp only[Bool.and_eq_true]at h
  have:=Aqo h.2.1 h.2.2
  simp;omega
end
end Go.Proofs.YtmhhajdeafijmaaGreat

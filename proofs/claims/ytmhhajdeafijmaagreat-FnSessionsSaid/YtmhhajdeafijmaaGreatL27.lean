/-
  That the program and the reference answer alike, in plain terms, and that the laws answer true.
-/
import Derived.Test.YtmhhajdeafijmaaGreatL26
namespace Go.Proofs.YtmhhajdeafijmaaGreat
open Go.RowKit
set_option linter.unusedVariables false
set_option linter.unusedSimpArgs false
set_option maxRecDepth 100000
set_option maxHeartbeats 4000000
noncomputable section
theorem Ub {w:B8} (h:Fz w=true):F7 w.2.1∧ -1≤w.1∧w.1≤281474976710655:=by
 unfold Fz at h
 simp only[Bool.and_eq_true]at h
 have h1:=Bp.1 h.1
 refine⟨⟨by have:=h.2.1.2;simp at this;omega,fun q x hx=>?_⟩,h1.1,h1.2⟩
 have:=Vt.1 h.2.1.1 q x hx
 omega
def Gl (w:B8) (n:Int):Bool:=Fz w && (inR n 0 281474976710655 && (decide (n>w.1) || (decide (n≥w.1-1023) && !U3 w n)))
theorem A7c (w:B8) (n:YI) (hl:w.2.1.length≤4294967296):Afh w n=some (Gl w n.1,()):=by
 unfold Afh Aes Gl
 simp only[Ae,Ai,Ac]
 rw[A07 w hl,Cj]
 simp only[Ag]
 cases ho:Fz w with
 |false=>rfl
 |true=>
  obtain⟨h1,h2,h3⟩:=Ub ho
  cases hn:inR n.1 0 281474976710655 with
  |false=>rfl
  |true=>
   have hn':=Bp.1 hn
   simp only[Bool.not_true,An]
   rw[w64 (n:=w.1-1024) zq0,w64 zq0,Anp w n h1.1 hn'.1,show w.1-1024+1=w.1-1023 by omega]
   cases decide (n.1>w.1)<;>cases decide (n.1≥w.1-1023)<;>rfl
theorem Axi (w:B8) (n:YI) (hl:w.2.1.length≤4294967296):Vj w n=some (Gl w n.1,()):=by
 unfold Vj Ad1 Gl Al3 Aaq
 simp only[Ae,Ai,Ac]
 rw[A08 w,Cz]
 simp only[Ag]
 cases ho:Fz w with
 |false=>rfl
 |true=>
  obtain⟨h1,h2,h3⟩:=Ub ho
  cases hn:inR n.1 0 281474976710655 with
  |false=>rfl
  |true=>
   have hn':=Bp.1 hn
   simp only[Bool.not_true,An]
   rw[w64 (n:=w.1-1024) zq0,w64 zq0,Asf w n h1.1 hn'.1,show w.1-1024+1=w.1-1023 by omega]
   simp only[Ag]
   by_cases hg:n.1>w.1
   ·rw[Am hg];rfl
   ·rw[Bj hg]
    by_cases ht:w.1<1024
    ·rw[Am ht,A0,Ag]
     simp only
     rw[Am (p:=n.1≥0) zq0,Am (p:=n.1≥w.1-1023) zq0];rfl
    ·rw[Bj ht]
     simp only[An,Ag]
     cases decide (n.1≥w.1-1023)<;>rfl
theorem A5h {l:List YI} (h:F7 l) (n s t:Int) (l0:List YI) (t':Int) (m:Nat) (h0:0≤s) (hm:s+m=n∨(m=0∧n≤s)) (hn:n≤281474976710656) (hs:s≤281474976710656):
  Ay Jt (n,s,t,l0,(0:Int),([]:List YI),t',l,())=some (n,t,l0,(0:Int),([]:List YI),t',Jh l s m,()):=by
 have hl:=Cp (B:=Jt) m (fun i=>(n,s+(i:Int),t,l0,(0:Int),([]:List YI),t',Jh l s i,())) (n,t,l0,(0:Int),([]:List YI),t',Jh l s m,())
  (fun i hi=>by
   have hw:=(Pp h h0 i).1
   have hx:=Af4 hw (n:=s+(i:Int)) zq0
   unfold Jt
   simp only[Ae,Ai,Ac,Ak]
   rw[Am (p:=s+(i:Int)<n) zq0,A0,Am (p:=(0:Int)≤s+(i:Int)) zq0,Am (p:=(0:Int)≤(s+(i:Int))%1024) zq0,Am (p:=(0:Int)≤(s+(i:Int))%32) zq0,hx,w64 (n:=s+(i:Int)+1) zq0]
   simp only[Ag,Ba]
   rw[show s+((i+1:Nat):Int)=s+(i:Int)+1 by push_cast;omega]
   rfl)
  (by
   unfold Jt
   simp only[Ae,Ai,Ac,Ak]
   rw[Bj zq0,An])
 rw[show s=s+((0:Nat):Int) by simp]at hl
 simpa [Jh] using hl
theorem A5i {l:List YI} (h:F7 l) (n s t:Int) (l0:List YI) (t':Int) (m:Nat) (h0:0≤s) (hm:(s+m=n+1∧m≤1024)∨(m=1024∧s+1024≤n+1)∨(m=0∧n<s)) (hn:n≤281474976710656) (hs:s≤281474976710656):
  Ay Jl (n,(0:Int),s,t,l0,(0:Int),([]:List YI),t',l,())=some (n,t,l0,(0:Int),([]:List YI),t',Jh l s m,()):=by
 have hl:=Cp (B:=Jl) m (fun i=>(n,(i:Int),s+(i:Int),t,l0,(0:Int),([]:List YI),t',Jh l s i,())) (n,t,l0,(0:Int),([]:List YI),t',Jh l s m,())
  (fun i hi=>by
   have hw:=(Pp h h0 i).1
   have hx:=Af4 hw (n:=s+(i:Int)) zq0
   unfold Jl
   simp only[Ae,Ai,Ac,Ak]
   rw[Am (p:=s+(i:Int)≤n) zq0,A0,Am (p:=(i:Int)<1024) zq0,A0,Am (p:=(0:Int)≤s+(i:Int)) zq0,Am (p:=(0:Int)≤(s+(i:Int))%1024) zq0,show(s+(i:Int))%1024%32=(s+(i:Int))%32 by omega,Am (p:=(0:Int)≤(s+(i:Int))%32) zq0,hx,w64 (n:=s+(i:Int)+1) zq0,w64 (n:=(i:Int)+1) zq0]
   simp only[Ag,Ba]
   rw[show s+((i+1:Nat):Int)=s+(i:Int)+1 by push_cast;omega]
   rfl)
  (by
   unfold Jl
   simp only[Ae,Ai,Ac,Ak]
   by_cases hle:s+(m:Int)≤n
   ·rw[Am hle,A0,Bj (p:=(m:Int)<1024) zq0,An]
   ·rw[Bj hle,An])
 rw[show s=s+((0:Nat):Int) by simp]at hl
 simpa [Jh] using hl
def Axj (t n:Int):Nat:=if n≤t then 0 else if n≤t+1024 then(n-t-1).toNat else 1023
def Abv (t n:Int):Int:=if t+1<n-1023 then n-1023 else t+1
def Abw (t n:Int):Nat:=if n≤t then 0 else if n≤t+1024 then(n-t).toNat else 1024
def Hd (w:B8) (n:Int):B8:=(if w.1<n then n else w.1,Kv Xs (Jh w.2.1 (w.1+1) (Abw w.1 n)) n,())
theorem A7d {l:List YI} (h:F7 l) {t n:Int} (ht: -1≤t) (hn:0≤n):Kv Xs (Jh l (Abv t n) (Axj t n)) n=Kv Xs (Jh l (t+1) (Abw t n)) n:=by
 refine A96 h (by unfold Abv;split<;>omega) zq0 hn fun r hr hne=>?_
 unfold Axj Abw Abv
 by_cases h1:n≤t
 ·rw[if_pos h1,if_pos h1]
  exact⟨fun _ k hk=>by omega,fun _ k hk=>by omega⟩
 ·rw[if_neg h1,if_neg h1]
  by_cases h2:n≤t+1024
  ·rw[if_pos h2,if_pos h2,if_neg zq0]
   constructor
   ·intro hk k hk2
    rcases Nat.lt_or_ge k (n-t-1).toNat with hh|hh
    ·exact hk k hh
    ·have:t+1+(k:Int)=n:=by omega
     rw[this];exact hne
   ·intro hk k hk2
    exact hk k zq0
  ·rw[if_neg h2,if_neg h2,if_pos zq0]
   constructor
   ·intro hk
    exact(hk (((r:Int)-(n-1023))%1024).toNat zq0 zq0).elim
   ·intro hk
    exact(hk (((r:Int)-(t+1))%1024).toNat zq0 zq0).elim
theorem Axk {f:Int→Int→Int} {l:List YI} {n:Int}:(Kv f l n).length=l.length:=by unfold Kv;simp
theorem Axl {l:List YI} {s:Int}: ∀m,(Jh l s m).length=l.length
 |0=>rfl
 |m+1=>by show(Kv Asi (Jh l s m) (s+m)).length=_;rw[Axk,Axl m]
theorem Abx (w:B8) (n:Int):Ed (Hd w n)=Ed w:=by
 simp only[Ed,Hd,Axk,Axl]
theorem A7e (w:B8) (n:YI) (hl:w.2.1.length≤4294967296):Afi w n=some (bif Gl w n.1 then(Hd w n.1,(true,()))else(w,(false,()))):=by
 unfold Afi Aet
 simp only[Ae,Ai,Ac,Ak]
 rw[Ajo w (by simp only[Ed];omega),A7c w n hl]
 simp only[Ag]
 cases hm:Gl w n.1 with
 |false=>rfl
 |true=>
  have hm':=hm
  unfold Gl at hm'
  simp only[Bool.and_eq_true]at hm'
  obtain⟨h1,h2,h3⟩:=Ub hm'.1
  have hn:=Bp.1 hm'.2.1
  simp only[Bool.not_true,An,cond_true]
  rw[w64 (n:=w.1+1) zq0,w64 (n:=n.1-1024) zq0,w64 (n:=n.1-1024+1) zq0,show n.1-1024+1=n.1-1023 by omega]
  rw[show(if w.1+1<n.1-1023 then n.1-1023 else w.1+1)=Abv w.1 n.1 from rfl]
  rw[A5h h1 n.1 (Abv w.1 n.1) w.1 w.2.1 w.1 (Axj w.1 n.1) (by unfold Abv;split<;>omega) (by unfold Abv Axj;split<;>(try split)<;>(try split)<;>omega) zq0 (by unfold Abv;split<;>omega)]
  have hw:=(Pp h1 (s:=Abv w.1 n.1) (by unfold Abv;split<;>omega) (Axj w.1 n.1)).1
  simp only[Ag]
  rw[Am (p:=(0:Int)≤n.1) zq0,Am (p:=(0:Int)≤n.1%1024) zq0,Am (p:=(0:Int)≤n.1%32) zq0,Af4 hw hn.1]
  simp only[Ag,Ba]
  unfold Hd
  rw[←A7d h1 h2 hn.1]
  rfl
theorem Any (w:B8) (n:YI) (hl:w.2.1.length≤4294967296):Qz w n=some (bif Gl w n.1 then(Hd w n.1,(true,()))else(w,(false,()))):=by
 unfold Qz Ad2
 simp only[Ae,Ai,Ac,Ak]
 rw[Axc w (by simp only[Ed];omega),Axi w n hl]
 simp only[Ag]
 cases hm:Gl w n.1 with
 |false=>rfl
 |true=>
  have hm':=hm
  unfold Gl at hm'
  simp only[Bool.and_eq_true]at hm'
  obtain⟨h1,h2,h3⟩:=Ub hm'.1
  have hn:=Bp.1 hm'.2.1
  simp only[Bool.not_true,An,cond_true]
  rw[w64 (n:=w.1+1) zq0]
  rw[A5i h1 n.1 (w.1+1) w.1 w.2.1 w.1 (Abw w.1 n.1) zq0 (by unfold Abw;split<;>(try split)<;>omega) zq0 zq0]
  have hw:=(Pp h1 (s:=w.1+1) zq0 (Abw w.1 n.1)).1
  simp only[Ag]
  rw[Am (p:=(0:Int)≤n.1) zq0,Am (p:=(0:Int)≤n.1%1024) zq0,show n.1%1024%32=n.1%32 by omega,Am (p:=(0:Int)≤n.1%32) zq0,Af4 hw hn.1]
  simp only[Ag,Ba]
  unfold Hd
  by_cases hg:n.1>w.1
  ·rw[Am hg,A0,if_pos hg];rfl
  ·rw[Bj hg,An,if_neg hg];rfl
end
end Go.Proofs.YtmhhajdeafijmaaGreat

/-
  That the program and the reference answer alike, in plain terms, and that the laws answer true.
-/
import Derived.Test.YtmhhajdeafijmaaGreatL26
namespace Go.Proofs.YtmhhajdeafijmaaGreat
open Go.RowKit
set_option linter.unusedVariables false
set_option linter.unusedSimpArgs false
set_option maxRecDepth 100000
set_option maxHeartbeats 4000000
noncomputable section
theorem Tm {w:B5} (h:Fw w=true):F4 w.2.1∧ -1≤w.1∧w.1≤281474976710655:=by
 unfold Fw at h
 simp only[Bool.and_eq_true]at h
 have h1:=Bl.1 h.1
 refine⟨⟨by have:=h.2.1.2;simp at this;omega,fun q x hx=>?_⟩,h1.1,h1.2⟩
 have:=U5.1 h.2.1.1 q x hx
 omega
def Gi (w:B5) (n:Int):Bool:=Fw w && (inR n 0 281474976710655 && (decide (n>w.1) || (decide (n≥w.1-1023) && !Uf w n)))
theorem A46 (w:B5) (n:YI) (hl:w.2.1.length≤4294967296):Adt w n=some (Gi w n.1,()):=by
 unfold Adt Ads Gi
 simp only[Ae,Ai,Ac]
 rw[Ay2 w hl,Ch]
 simp only[Ag]
 cases ho:Fw w with
 |false=>rfl
 |true=>
  obtain⟨h1,h2,h3⟩:=Tm ho
  cases hn:inR n.1 0 281474976710655 with
  |false=>rfl
  |true=>
   have hn':=Bl.1 hn
   simp only[Bool.not_true,Am]
   rw[w64 (n:=w.1-1024) zq0,w64 zq0,Al0 w n h1.1 hn'.1,show w.1-1024+1=w.1-1023 by omega]
   cases decide (n.1>w.1)<;>cases decide (n.1≥w.1-1023)<;>rfl
theorem Ave (w:B5) (n:YI) (hl:w.2.1.length≤4294967296):Ac1 w n=some (Gi w n.1,()):=by
 unfold Ac1 Ac0 Gi Ajz Z0
 simp only[Ae,Ai,Ac]
 rw[Ay3 w,Cw]
 simp only[Ag]
 cases ho:Fw w with
 |false=>rfl
 |true=>
  obtain⟨h1,h2,h3⟩:=Tm ho
  cases hn:inR n.1 0 281474976710655 with
  |false=>rfl
  |true=>
   have hn':=Bl.1 hn
   simp only[Bool.not_true,Am]
   rw[w64 (n:=w.1-1024) zq0,w64 zq0,Aqj w n h1.1 hn'.1,show w.1-1024+1=w.1-1023 by omega]
   simp only[Ag]
   by_cases hg:n.1>w.1
   ·rw[Ak hg];rfl
   ·rw[Bh hg]
    by_cases ht:w.1<1024
    ·rw[Ak ht,A0,Ag]
     simp only
     rw[Ak (p:=n.1≥0) zq0,Ak (p:=n.1≥w.1-1023) zq0];rfl
    ·rw[Bh ht]
     simp only[Am,Ag]
     cases decide (n.1≥w.1-1023)<;>rfl
theorem A3b {l:List YI} (h:F4 l) (n s t:Int) (l0:List YI) (t':Int) (m:Nat) (h0:0≤s) (hm:s+m=n∨(m=0∧n≤s)) (hn:n≤281474976710656) (hs:s≤281474976710656):
  Ay Jg (n,s,t,l0,(0:Int),([]:List YI),t',l,())=some (n,t,l0,(0:Int),([]:List YI),t',I8 l s m,()):=by
 have hl:=Cn (B:=Jg) m (fun i=>(n,s+(i:Int),t,l0,(0:Int),([]:List YI),t',I8 l s i,())) (n,t,l0,(0:Int),([]:List YI),t',I8 l s m,())
  (fun i hi=>by
   have hw:=(O6 h h0 i).1
   have hx:=Ae4 hw (n:=s+(i:Int)) zq0
   unfold Jg
   simp only[Ae,Ai,Ac,Aj]
   rw[Ak (p:=s+(i:Int)<n) zq0,A0,Ak (p:=(0:Int)≤s+(i:Int)) zq0,Ak (p:=(0:Int)≤(s+(i:Int))%1024) zq0,Ak (p:=(0:Int)≤(s+(i:Int))%32) zq0,hx,w64 (n:=s+(i:Int)+1) zq0]
   simp only[Ag,A8]
   rw[show s+((i+1:Nat):Int)=s+(i:Int)+1 by push_cast;omega]
   rfl)
  (by
   unfold Jg
   simp only[Ae,Ai,Ac,Aj]
   rw[Bh zq0,Am])
 rw[show s=s+((0:Nat):Int) by simp]at hl
 simpa [I8] using hl
theorem A3c {l:List YI} (h:F4 l) (n s t:Int) (l0:List YI) (t':Int) (m:Nat) (h0:0≤s) (hm:(s+m=n+1∧m≤1024)∨(m=1024∧s+1024≤n+1)∨(m=0∧n<s)) (hn:n≤281474976710656) (hs:s≤281474976710656):
  Ay Jc (n,(0:Int),s,t,l0,(0:Int),([]:List YI),t',l,())=some (n,t,l0,(0:Int),([]:List YI),t',I8 l s m,()):=by
 have hl:=Cn (B:=Jc) m (fun i=>(n,(i:Int),s+(i:Int),t,l0,(0:Int),([]:List YI),t',I8 l s i,())) (n,t,l0,(0:Int),([]:List YI),t',I8 l s m,())
  (fun i hi=>by
   have hw:=(O6 h h0 i).1
   have hx:=Ae4 hw (n:=s+(i:Int)) zq0
   unfold Jc
   simp only[Ae,Ai,Ac,Aj]
   rw[Ak (p:=s+(i:Int)≤n) zq0,A0,Ak (p:=(i:Int)<1024) zq0,A0,Ak (p:=(0:Int)≤s+(i:Int)) zq0,Ak (p:=(0:Int)≤(s+(i:Int))%1024) zq0,show(s+(i:Int))%1024%32=(s+(i:Int))%32 by omega,Ak (p:=(0:Int)≤(s+(i:Int))%32) zq0,hx,w64 (n:=s+(i:Int)+1) zq0,w64 (n:=(i:Int)+1) zq0]
   simp only[Ag,A8]
   rw[show s+((i+1:Nat):Int)=s+(i:Int)+1 by push_cast;omega]
   rfl)
  (by
   unfold Jc
   simp only[Ae,Ai,Ac,Aj]
   by_cases hle:s+(m:Int)≤n
   ·rw[Ak hle,A0,Bh (p:=(m:Int)<1024) zq0,Am]
   ·rw[Bh hle,Am])
 rw[show s=s+((0:Nat):Int) by simp]at hl
 simpa [I8] using hl
def Avf (t n:Int):Nat:=if n≤t then 0 else if n≤t+1024 then(n-t-1).toNat else 1023
def Aa5 (t n:Int):Int:=if t+1<n-1023 then n-1023 else t+1
def Aa6 (t n:Int):Nat:=if n≤t then 0 else if n≤t+1024 then(n-t).toNat else 1024
def G8 (w:B5) (n:Int):B5:=(if w.1<n then n else w.1,Kk W5 (I8 w.2.1 (w.1+1) (Aa6 w.1 n)) n,())
theorem A47 {l:List YI} (h:F4 l) {t n:Int} (ht: -1≤t) (hn:0≤n):Kk W5 (I8 l (Aa5 t n) (Avf t n)) n=Kk W5 (I8 l (t+1) (Aa6 t n)) n:=by
 refine A70 h (by unfold Aa5;split<;>omega) zq0 hn fun r hr hne=>?_
 unfold Avf Aa6 Aa5
 by_cases h1:n≤t
 ·rw[if_pos h1,if_pos h1]
  exact⟨fun _ k hk=>by omega,fun _ k hk=>by omega⟩
 ·rw[if_neg h1,if_neg h1]
  by_cases h2:n≤t+1024
  ·rw[if_pos h2,if_pos h2,if_neg zq0]
   constructor
   ·intro hk k hk2
    rcases Nat.lt_or_ge k (n-t-1).toNat with hh|hh
    ·exact hk k hh
    ·have:t+1+(k:Int)=n:=by omega
     rw[this];exact hne
   ·intro hk k hk2
    exact hk k zq0
  ·rw[if_neg h2,if_neg h2,if_pos zq0]
   constructor
   ·intro hk
    exact(hk (((r:Int)-(n-1023))%1024).toNat zq0 zq0).elim
   ·intro hk
    exact(hk (((r:Int)-(t+1))%1024).toNat zq0 zq0).elim
theorem Avg {f:Int→Int→Int} {l:List YI} {n:Int}:(Kk f l n).length=l.length:=by unfold Kk;simp
theorem Avh {l:List YI} {s:Int}: ∀m,(I8 l s m).length=l.length
 |0=>rfl
 |m+1=>by show(Kk Aqm (I8 l s m) (s+m)).length=_;rw[Avg,Avh m]
theorem Aa7 (w:B5) (n:Int):D9 (G8 w n)=D9 w:=by
 simp only[D9,G8,Avg,Avh]
theorem A48 (w:B5) (n:YI) (hl:w.2.1.length≤4294967296):Adv w n=some (bif Gi w n.1 then(G8 w n.1,(true,()))else(w,(false,()))):=by
 unfold Adv Adu
 simp only[Ae,Ai,Ac,Aj]
 rw[Aid w (by simp only[D9];omega),A46 w n hl]
 simp only[Ag]
 cases hm:Gi w n.1 with
 |false=>rfl
 |true=>
  have hm':=hm
  unfold Gi at hm'
  simp only[Bool.and_eq_true]at hm'
  obtain⟨h1,h2,h3⟩:=Tm hm'.1
  have hn:=Bl.1 hm'.2.1
  simp only[Bool.not_true,Am,cond_true]
  rw[w64 (n:=w.1+1) zq0,w64 (n:=n.1-1024) zq0,w64 (n:=n.1-1024+1) zq0,show n.1-1024+1=n.1-1023 by omega]
  rw[show(if w.1+1<n.1-1023 then n.1-1023 else w.1+1)=Aa5 w.1 n.1 from rfl]
  rw[A3b h1 n.1 (Aa5 w.1 n.1) w.1 w.2.1 w.1 (Avf w.1 n.1) (by unfold Aa5;split<;>omega) (by unfold Aa5 Avf;split<;>(try split)<;>(try split)<;>omega) zq0 (by unfold Aa5;split<;>omega)]
  have hw:=(O6 h1 (s:=Aa5 w.1 n.1) (by unfold Aa5;split<;>omega) (Avf w.1 n.1)).1
  simp only[Ag]
  rw[Ak (p:=(0:Int)≤n.1) zq0,Ak (p:=(0:Int)≤n.1%1024) zq0,Ak (p:=(0:Int)≤n.1%32) zq0,Ae4 hw hn.1]
  simp only[Ag,A8]
  unfold G8
  rw[←A47 h1 h2 hn.1]
  rfl
theorem Al8 (w:B5) (n:YI) (hl:w.2.1.length≤4294967296):Un w n=some (bif Gi w n.1 then(G8 w n.1,(true,()))else(w,(false,()))):=by
 unfold Un Ac2
 simp only[Ae,Ai,Ac,Aj]
 rw[Au8 w (by simp only[D9];omega),Ave w n hl]
 simp only[Ag]
 cases hm:Gi w n.1 with
 |false=>rfl
 |true=>
  have hm':=hm
  unfold Gi at hm'
  simp only[Bool.and_eq_true]at hm'
  obtain⟨h1,h2,h3⟩:=Tm hm'.1
  have hn:=Bl.1 hm'.2.1
  simp only[Bool.not_true,Am,cond_true]
  rw[w64 (n:=w.1+1) zq0]
  rw[A3c h1 n.1 (w.1+1) w.1 w.2.1 w.1 (Aa6 w.1 n.1) zq0 (by unfold Aa6;split<;>(try split)<;>omega) zq0 zq0]
  have hw:=(O6 h1 (s:=w.1+1) zq0 (Aa6 w.1 n.1)).1
  simp only[Ag]
  rw[Ak (p:=(0:Int)≤n.1) zq0,Ak (p:=(0:Int)≤n.1%1024) zq0,show n.1%1024%32=n.1%32 by omega,Ak (p:=(0:Int)≤n.1%32) zq0,Ae4 hw hn.1]
  simp only[Ag,A8]
  unfold G8
  by_cases hg:n.1>w.1
  ·rw[Ak hg,A0,if_pos hg];rfl
  ·rw[Bh hg,Am,if_neg hg];rfl
end
end Go.Proofs.YtmhhajdeafijmaaGreat

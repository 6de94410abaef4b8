/-
  That the program and the reference answer alike, in plain terms, and that the laws answer true.
-/
import Derived.Test.YtjlblagmjlmglaaGreatL26
namespace Go.Proofs.YtjlblagmjlmglaaGreat
open Go.RowKit
set_option linter.unusedVariables false
set_option linter.unusedSimpArgs false
set_option maxRecDepth 100000
set_option maxHeartbeats 4000000
noncomputable section
theorem Sq {w:Bp} (h:Ih w=true):Fr w.2.1∧ -1≤w.1∧w.1≤281474976710655:=by
 unfold Ih at h
 simp only[Bool.and_eq_true]at h
 have h1:=Bf.1 h.1
 refine⟨⟨by have:=h.2.1.2;simp at this;omega,fun q x hx=>?_⟩,h1.1,h1.2⟩
 have:=Wx.1 h.2.1.1 q x hx
 omega
def Gj (w:Bp) (n:Int):Bool:=Ih w && (inR n 0 281474976710655 && (decide (n>w.1) || (decide (n≥w.1-1023) && !Tm w n)))
theorem A9n (w:Bp) (n:YI) (hl:w.2.1.length≤4294967296):Ahj w n=some (Gj w n.1,()):=by
 unfold Ahj Ash Gj
 simp only[Ai,Aj,Ad]
 rw[A22 w hl,B6]
 simp only[Al]
 cases ho:Ih w with
 |false=>rfl
 |true=>
  obtain⟨h1,h2,h3⟩:=Sq ho
  cases hn:inR n.1 0 281474976710655 with
  |false=>rfl
  |true=>
   have hn':=Bf.1 hn
   simp only[Bool.not_true,Aq]
   rw[w64 (n:=w.1-1024) zq0,w64 zq0,Ap0 w n h1.1 hn'.1,show w.1-1024+1=w.1-1023 by omega]
   cases decide (n.1>w.1)<;>cases decide (n.1≥w.1-1023)<;>rfl
theorem Azo (w:Bp) (n:YI) (hl:w.2.1.length≤4294967296):Wm w n=some (Gj w n.1,()):=by
 unfold Wm Afu Gj An9 Ab6
 simp only[Ai,Aj,Ad]
 rw[A23 w,Bv]
 simp only[Al]
 cases ho:Ih w with
 |false=>rfl
 |true=>
  obtain⟨h1,h2,h3⟩:=Sq ho
  cases hn:inR n.1 0 281474976710655 with
  |false=>rfl
  |true=>
   have hn':=Bf.1 hn
   simp only[Bool.not_true,Aq]
   rw[w64 (n:=w.1-1024) zq0,w64 zq0,At8 w n h1.1 hn'.1,show w.1-1024+1=w.1-1023 by omega]
   simp only[Al]
   by_cases hg:n.1>w.1
   ·rw[Ao hg];rfl
   ·rw[Bb hg]
    by_cases ht:w.1<1024
    ·rw[Ao ht,Ax,Al]
     simp only
     rw[Ao (p:=n.1≥0) zq0,Ao (p:=n.1≥w.1-1023) zq0];rfl
    ·rw[Bb ht]
     simp only[Aq,Al]
     cases decide (n.1≥w.1-1023)<;>rfl
theorem A7r {l:List YI} (h:Fr l) (n s t:Int) (l0:List YI) (t':Int) (m:Nat) (h0:0≤s) (hm:s+m=n∨(m=0∧n≤s)) (hn:n≤281474976710656) (hs:s≤281474976710656):
  Az Lg (n,s,t,l0,(0:Int),([]:List YI),t',l,())=some (n,t,l0,(0:Int),([]:List YI),t',Ig l s m,()):=by
 have hl:=C5 (B:=Lg) m (fun i=>(n,s+(i:Int),t,l0,(0:Int),([]:List YI),t',Ig l s i,())) (n,t,l0,(0:Int),([]:List YI),t',Ig l s m,())
  (fun i hi=>by
   have hw:=(Nv h h0 i).1
   have hx:=Ah3 hw (n:=s+(i:Int)) zq0
   unfold Lg
   simp only[Ai,Aj,Ad,Ap]
   rw[Ao (p:=s+(i:Int)<n) zq0,Ax,Ao (p:=(0:Int)≤s+(i:Int)) zq0,Ao (p:=(0:Int)≤(s+(i:Int))%1024) zq0,Ao (p:=(0:Int)≤(s+(i:Int))%32) zq0,hx,w64 (n:=s+(i:Int)+1) zq0]
   simp only[Al,A8]
   rw[show s+((i+1:Nat):Int)=s+(i:Int)+1 by push_cast;omega]
   rfl)
  (by
   unfold Lg
   simp only[Ai,Aj,Ad,Ap]
   rw[Bb zq0,Aq])
 rw[show s=s+((0:Nat):Int) by simp]at hl
 simpa [Ig] using hl
theorem A7s {l:List YI} (h:Fr l) (n s t:Int) (l0:List YI) (t':Int) (m:Nat) (h0:0≤s) (hm:(s+m=n+1∧m≤1024)∨(m=1024∧s+1024≤n+1)∨(m=0∧n<s)) (hn:n≤281474976710656) (hs:s≤281474976710656):
  Az Ip (n,(0:Int),s,t,l0,(0:Int),([]:List YI),t',l,())=some (n,t,l0,(0:Int),([]:List YI),t',Ig l s m,()):=by
 have hl:=C5 (B:=Ip) m (fun i=>(n,(i:Int),s+(i:Int),t,l0,(0:Int),([]:List YI),t',Ig l s i,())) (n,t,l0,(0:Int),([]:List YI),t',Ig l s m,())
  (fun i hi=>by
   have hw:=(Nv h h0 i).1
   have hx:=Ah3 hw (n:=s+(i:Int)) zq0
   unfold Ip
   simp only[Ai,Aj,Ad,Ap]
   rw[Ao (p:=s+(i:Int)≤n) zq0,Ax,Ao (p:=(i:Int)<1024) zq0,Ax,Ao (p:=(0:Int)≤s+(i:Int)) zq0,Ao (p:=(0:Int)≤(s+(i:Int))%1024) zq0,show(s+(i:Int))%1024%32=(s+(i:Int))%32 by omega,Ao (p:=(0:Int)≤(s+(i:Int))%32) zq0,hx,w64 (n:=s+(i:Int)+1) zq0,w64 (n:=(i:Int)+1) zq0]
   simp only[Al,A8]
   rw[show s+((i+1:Nat):Int)=s+(i:Int)+1 by push_cast;omega]
   rfl)
  (by
   unfold Ip
   simp only[Ai,Aj,Ad,Ap]
   by_cases hle:s+(m:Int)≤n
   ·rw[Ao hle,Ax,Bb (p:=(m:Int)<1024) zq0,Aq]
   ·rw[Bb hle,Aq])
 rw[show s=s+((0:Nat):Int) by simp]at hl
 simpa [Ig] using hl
def Azp (t n:Int):Nat:=if n≤t then 0 else if n≤t+1024 then(n-t-1).toNat else 1023
def Adc (t n:Int):Int:=if t+1<n-1023 then n-1023 else t+1
def Ade (t n:Int):Nat:=if n≤t then 0 else if n≤t+1024 then(n-t).toNat else 1024
def Hi (w:Bp) (n:Int):Bp:=(if w.1<n then n else w.1,Jp Aaa (Ig w.2.1 (w.1+1) (Ade w.1 n)) n,())
theorem A9o {l:List YI} (h:Fr l) {t n:Int} (ht: -1≤t) (hn:0≤n):Jp Aaa (Ig l (Adc t n) (Azp t n)) n=Jp Aaa (Ig l (t+1) (Ade t n)) n:=by
 refine Bcg h (by unfold Adc;split<;>omega) zq0 hn fun r hr hne=>?_
 unfold Azp Ade Adc
 by_cases h1:n≤t
 ·rw[if_pos h1,if_pos h1]
  exact⟨fun _ k hk=>by omega,fun _ k hk=>by omega⟩
 ·rw[if_neg h1,if_neg h1]
  by_cases h2:n≤t+1024
  ·rw[if_pos h2,if_pos h2,if_neg zq0]
   constructor
   ·intro hk k hk2
    rcases Nat.lt_or_ge k (n-t-1).toNat with hh|hh
    ·exact hk k hh
    ·have:t+1+(k:Int)=n:=by omega
     rw[this];exact hne
   ·intro hk k hk2
    exact hk k zq0
  ·rw[if_neg h2,if_neg h2,if_pos zq0]
   constructor
   ·intro hk
    exact(hk (((r:Int)-(n-1023))%1024).toNat zq0 zq0).elim
   ·intro hk
    exact(hk (((r:Int)-(t+1))%1024).toNat zq0 zq0).elim
theorem Azq {f:Int→Int→Int} {l:List YI} {n:Int}:(Jp f l n).length=l.length:=by unfold Jp;simp
theorem Azr {l:List YI} {s:Int}: ∀m,(Ig l s m).length=l.length
 |0=>rfl
 |m+1=>by show(Jp Aub (Ig l s m) (s+m)).length=_;rw[Azq,Azr m]
theorem Aoi (w:Bp) (n:Int):D0 (Hi w n)=D0 w:=by
 simp only[D0,Hi,Azq,Azr]
theorem A9p (w:Bp) (n:YI) (hl:w.2.1.length≤4294967296):Ahk w n=some (bif Gj w n.1 then(Hi w n.1,(true,()))else(w,(false,()))):=by
 unfold Ahk Asi
 simp only[Ai,Aj,Ad,Ap]
 rw[Alu w (by simp only[D0];omega),A9n w n hl]
 simp only[Al]
 cases hm:Gj w n.1 with
 |false=>rfl
 |true=>
  have hm':=hm
  unfold Gj at hm'
  simp only[Bool.and_eq_true]at hm'
  obtain⟨h1,h2,h3⟩:=Sq hm'.1
  have hn:=Bf.1 hm'.2.1
  simp only[Bool.not_true,Aq,cond_true]
  rw[w64 (n:=w.1+1) zq0,w64 (n:=n.1-1024) zq0,w64 (n:=n.1-1024+1) zq0,show n.1-1024+1=n.1-1023 by omega]
  rw[show(if w.1+1<n.1-1023 then n.1-1023 else w.1+1)=Adc w.1 n.1 from rfl]
  rw[A7r h1 n.1 (Adc w.1 n.1) w.1 w.2.1 w.1 (Azp w.1 n.1) (by unfold Adc;split<;>omega) (by unfold Adc Azp;split<;>(try split)<;>(try split)<;>omega) zq0 (by unfold Adc;split<;>omega)]
  have hw:=(Nv h1 (s:=Adc w.1 n.1) (by unfold Adc;split<;>omega) (Azp w.1 n.1)).1
  simp only[Al]
  rw[Ao (p:=(0:Int)≤n.1) zq0,Ao (p:=(0:Int)≤n.1%1024) zq0,Ao (p:=(0:Int)≤n.1%32) zq0,Ah3 hw hn.1]
  simp only[Al,A8]
  unfold Hi
  rw[←A9o h1 h2 hn.1]
  rfl
theorem Azs (w:Bp) (n:YI) (hl:w.2.1.length≤4294967296):Oz w n=some (bif Gj w n.1 then(Hi w n.1,(true,()))else(w,(false,()))):=by
 unfold Oz Afy
 simp only[Ai,Aj,Ad,Ap]
 rw[Azg w (by simp only[D0];omega),Azo w n hl]
 simp only[Al]
 cases hm:Gj w n.1 with
 |false=>rfl
 |true=>
  have hm':=hm
  unfold Gj at hm'
  simp only[Bool.and_eq_true]at hm'
  obtain⟨h1,h2,h3⟩:=Sq hm'.1
  have hn:=Bf.1 hm'.2.1
  simp only[Bool.not_true,Aq,cond_true]
  rw[w64 (n:=w.1+1) zq0]
  rw[A7s h1 n.1 (w.1+1) w.1 w.2.1 w.1 (Ade w.1 n.1) zq0 (by unfold Ade;split<;>(try split)<;>omega) zq0 zq0]
  have hw:=(Nv h1 (s:=w.1+1) zq0 (Ade w.1 n.1)).1
  simp only[Al]
  rw[Ao (p:=(0:Int)≤n.1) zq0,Ao (p:=(0:Int)≤n.1%1024) zq0,show n.1%1024%32=n.1%32 by omega,Ao (p:=(0:Int)≤n.1%32) zq0,Ah3 hw hn.1]
  simp only[Al,A8]
  unfold Hi
  by_cases hg:n.1>w.1
  ·rw[Ao hg,Ax,if_pos hg];rfl
  ·rw[Bb hg,Aq,if_neg hg];rfl
end
end Go.Proofs.YtjlblagmjlmglaaGreat
